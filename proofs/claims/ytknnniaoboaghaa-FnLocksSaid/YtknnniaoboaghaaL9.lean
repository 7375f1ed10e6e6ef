import Derived.Test.YtknnniaoboaghaaL8
namespace Go.Proofs.Ytknnniaoboaghaa
open Go.V
set_option linter.unusedVariables false
set_option linter.unusedSimpArgs false
set_option maxRecDepth 20000
set_option maxHeartbeats 4000000
theorem Z9 (s : ByteArray) : ∀ L : List Lk, pos s L ≤ L.length
 | [] => Nat.le_refl _
 | l :: r => by
  have := Z9 s r
  unfold pos
  split <;> simp <;> omega
theorem BF (L : List Lk) (W : Nat → V) : ∀ e ∈ rwW L W, e.length = 5 := fun e he => by
 obtain ⟨i, _, rfl⟩ := List.mem_map.1 he; rfl
theorem TabM.insS {t : Tb} {id : Nat} {Sl Ss : V} {W : Nat → V} {h g : Heap} {n m : Nat} (T : TabM t id Sl Ss W h n) {k : Nat} (hk : k ≤ t.lk.length) (l : Lk) (w : V) (nx : Int) (lb : Nat) (hnm : n ≤ m) (hlb : n ≤ lb ∧ lb < m)
  (g1 : g id = some ⟨[[.int .i64 t.tm, .int .i64 nx, .view lb 0 (t.lk.length + 1), Ss]], 4, 35⟩) (g2 : g lb = some ⟨(rwW t.lk W).take k ++ l.V w :: (rwW t.lk W).drop k, 5, 29⟩) (g3 : IsL g w (l.ws.map wtV) 2 123)
  (g4 : ∀ a, fpV w = some a → a < m ∧ n ≤ a ∧ a ≠ lb) (g5 : ∀ a, a < n → a ≠ id → fpV Sl ≠ some a → g a = h a) : TabS ⟨t.tm, nx, insL t.lk k l, t.sn⟩ id (OwnT id Sl Ss W t.lk.length) n h g m := by
 have hlen : (insL t.lk k l).length = t.lk.length + 1 := J0 hk
 refine ⟨_, Ss, _, T.insLk hk l w nx lb hnm hlb g1 g2 g3 g4 (fun a o h1 h2 => g5 a (T.lt o) h1 h2), fun a o => ?_, fun a ha hna => g5 a ha (fun e => hna (.inl e)) (fun e => hna (.inr (.inl e))), hnm⟩
 rcases o with h | h | h | ⟨i, hi, h⟩
 ·exact .inl (.inl h)
 ·cases h; exact .inr hlb.1
 ·exact .inl (.inr (.inr (.inl h)))
 ·have hi' : i < t.lk.length + 1 := by rw [← hlen]; exact hi
  unfold insW at h
  by_cases h1 : i < k
  ·rw [if_pos h1] at h; exact .inl (.inr (.inr (.inr ⟨i, by omega, h⟩)))
  ·rw [if_neg h1] at h
   by_cases h2 : i = k
   ·rw [if_pos h2] at h; exact .inr (g4 a h).2.1
   ·rw [if_neg h2] at h; exact .inl (.inr (.inr (.inr ⟨i - 1, by omega, h⟩)))
theorem o134x (t : Tb) (r : Rq) (bd : Bd t r) (hh : ¬ hit r.nm t.lk) {k : Nat} (hp : pos r.nm t.lk = k) {id lb : Nat} {Ss : V} {W : Nat → V} {h : Heap} {n : Nat} (T : TabM t id (.view lb 0 t.lk.length) Ss W h n) : OpenM En 134 [.ptr id 0 0, .agg [.int .i64 r.cl, .int .i64 r.st, .int .i64 r.kd, .int .i64 r.le, .str r.nm]] h n (fun v g m => v = .agg (acqT t r).2.V ∧ TabS (acqT t r).1 id (OwnT id (.view lb 0 t.lk.length) Ss W t.lk.length) n h g m) := by
 have hid := T.idn
 have kid := T.kid
 have hl4 := bd.l4; have htm := bd.tm; have hnx := bd.nx; have hcl := bd.cl; have hle := bd.le
 have hf := fun (h : Heap) (n : Nat) (T : TabM t id (.view lb 0 t.lk.length) Ss W h n) => o48x t W r.nm bd.srt (by omega) hh T
 rw [hp] at hf
 have hk : k ≤ t.lk.length := by rw [← hp]; exact Z9 _ _
 have hI := fun vb h n => @o146z (rwW t.lk W) r.nm 0 (-1) 0 .nsl rfl k (by rw [B6]; exact hk) (BF _ _) (by rw [B6]; omega) (.view lb 0 t.lk.length) vb h n
 rw [B6] at hI
 simp only [idV, fpV, Option.getD_some, Option.getD_none] at hI
 have hsl := T.fl
 have hkl := T.kl
 have hA : ((rwW t.lk W).take k).length = k := by rw [List.length_take, B6]; omega
 have hRI : k < ((rwW t.lk W).take k ++ [.str r.nm, .int .i64 0, .int .i64 (-1), .int .i64 0, .nsl] :: (rwW t.lk W).drop k).length := by rw [List.length_append, hA, List.length_cons]; omega
 have hrow : ((rwW t.lk W).take k ++ [.str r.nm, .int .i64 0, .int .i64 (-1), .int .i64 0, .nsl] :: (rwW t.lk W).drop k)[k]? = some [.str r.nm, .int .i64 0, .int .i64 (-1), .int .i64 0, .nsl] := AX hA
 have hlb := T.fl lb rfl
 have hne := hlb.2
 refine OpenM.of_wp Try.func134 rfl kb ?_
 refine A2 (A0 (K7 (u := .agg [.int _ _, .int _ _, .int _ _, .int _ _, .str _]) j3 rfl j3 (H3 j6 (A3 (A1 (A2 (A0 (D9 j5 (C2 (off := 4) (s := 1) (r := false) j3 kz j3 ?_)))))))))
 (apply C6 (v := .str _) j2; exact Q0; exact Q5; exact j5)
 refine I7 (hf _ _ (T.ext (by omega) (fun a ha => by (simp (disch := (first | omega | assumption)) only [↓appC, ↓updN, ↓updS, ↓app0])))) rfl rfl rfl rfl rfl rfl ?_
 refine rmT j5 (T8 j6 (T8 j6 (D1 j5 (C3 j5 (A3 (A1 (A2 (A2 (A0 (C7 j5 (E1 (c := false) j5 (A3 ?_))))))))))))
 refine A1 (wT rfl (A2 (A2 (A0 (D9 j5 (F8 (v := .ptr _ _ _) j6 (C2 (off := 2) (s := 1) (r := false) j3 kz j3 ?_)))))))
 (apply C6 (v := .view _ _ _) j2; exact Q0; exact Q5; exact j5)
 refine G7 rfl rfl rfl j3 ?_
 refine H5 j6 ?_ ?_ <;> intro h3_5
 ·refine A3 (A1 (wT rfl (A2 (A0 (AS (p110 6) rfl j5 ?_)))))
  (apply D6 (u := .agg [.int _ _, .int _ _, .int _ _, .int _ _]) j3; exact Q0; exact Q5; rfl; rfl; rfl; rfl; exact kb; rfl; exact j2)
  refine A3 (A1 (B1 (B0 (B0 (E0 (A6 (A7 rfl (by exact Q0) j2 kb rfl) A9) (by (repeat first | exact Ch.refl _ | refine Ch.upd ?_ | refine Ch.app ?_ | assumption)) ?_)))))
  rw [acqT_no hh (by omega)]
  exact ⟨rfl, T.same (by omega) (fun a ha => by (simp (disch := (first | omega | assumption)) only [↓appC, ↓updN, ↓updS, ↓app0]))⟩
 ·refine A3 (A1 (wF rfl (B2 (A1 (B9 [0, 0, 2, 6, 14, 0, 0, 64, 192, 448, 1022, 2047, 4095, 8191] rfl (by decide +kernel) ?_)))))
  refine G9 j5 (G9 j5 (H0 (v := .ptr _ _ _) j6 (C9 (off := 2) (s := 1) (r := false) j3 kz j3 ?_)))
  (apply D5 (v := .view _ _ _) j2; exact Q0; exact Q5; exact j5)
  refine I2 j5 (C9 (off := 4) (s := 1) (r := false) j3 kz j3 ?_)
  (apply D5 (v := .str _) j2; exact Q0; exact Q5; exact j5)
  refine dbd (cs := [.str _, .int _ _, .int _ _, .int _ _, _]) j5 (X6 (es := [[.str _, .int _ _, .int _ _, .int _ _, _]]) j4 kz kb rfl rfl j3 ?_)
  refine dop (hI (n + 1 + 1 + t.lk.length + 1) _ _ (hkl.mono (fun a ha => by have q := hsl a ha; have q1 := q.1; have q2 := q.2; (simp (disch := (first | omega | assumption)) only [↓appC, ↓updN, ↓updS, ↓app0]))) (fun a ha => by have q := hsl a (by first | exact ha | exact congrArg some (Option.some.inj ha) | cases ha); omega) (by omega) (by exact Q0)) rfl rfl rfl rfl rfl rfl ?_
  refine H0 (v := .ptr _ _ _) j6 (C9 (off := 2) (s := 1) (r := false) j3 kz j3 ?_)
  (apply dst (u := .view _ _ _) rfl rfl rfl; exact Q0; exact Q5; rfl; rfl; rfl; rfl; exact kb; rfl; rfl; rfl)
  refine B3 14 [3, 0, 0, 3, 3, 0, 1, 0, 0, 1, 0, 0, 0, 0] [(4, 9)] j2 (by decide +kernel) ?_ ?_
  ·(simp [ClearL, ids, idV, fpV]; try omega)
  refine A1 (A2 (A0 (D9 j5 (F8 (v := .ptr _ _ _) j6 (C2 (off := 2) (s := 1) (r := false) j3 kz j3 ?_)))))
  (apply C6 (v := .view _ _ _) j2; exact Q0; exact Q5; exact j5)
  refine B5 j5 ?_
  (refine r0 ((C1 (b := ⟨((rwW t.lk W).take k ++ [.str r.nm, .int .i64 0, .int .i64 (-1), .int .i64 0, .nsl] :: (rwW t.lk W).drop k), 5, 29⟩) rfl rfl rfl rfl (by exact Q0) rfl (by omega) (by omega)).to (v' := .ptr (n + 1 + 1 + t.lk.length + 1 + 1) k 0) (by rw [G8])) rfl rfl rfl ?_)
  refine raP j5 (A3 (A1 (A2 (B4 (A2 (B9 [0, 1, 3, 7, 0, 16, 63, 127, 255, 511, 1023, 255, 2303, 8191, 16383, 32767, 65535] rfl (by decide +kernel) ?_))))))
  refine G9 j5 (H0 (v := .ptr _ _ _) j6 (C9 (off := 2) (s := 1) (r := false) j3 kz j3 ?_))
  (apply D5 (v := .int _ _) j2; exact Q0; exact Q5; exact j5)
  refine C9 (off := 0) (s := 1) (r := false) j3 kz j3 ?_
  (apply D5 (v := .int _ _) j2; exact Q0; exact Q5; exact j5)
  refine deq j6 (fun h => absurd h (by omega)) ?_
  intro h7_6
  refine F9 j5 (G9 j5 (H0 (v := .ptr _ _ _) j6 ?_))
  (apply L8 (vs := [.str _, .int _ _, .int _ _, .int _ _, _]) j2; exact Q0; exact Q5; rfl; exact kb; exact j4)
  refine C9 (off := 0) (s := 1) (r := false) j3 kz j3 ?_
  (apply D5 (v := .int _ _) j2; exact Q0; exact Q5; exact j5)
  apply O5 [n + 1 + 1 + t.lk.length + 1 + 1] (p66 ⟨r.nm, 0, -1, 0, []⟩ false r.cl (Nat.zero_le _)) rfl j2
  ·exact SnapL.cons _ _ _ _ (SnapC.agg (.cons _ _ _ _ (.str _) (.cons _ _ _ _ (.int _ _) (.cons _ _ _ _ (.int _ _) (.cons _ _ _ _ (.int _ _) (.cons _ _ _ _ .nslW .nil)))))) (SnapL.cons _ _ _ _ (.one _ _ (.int _ _)) SnapL.nil)
  ·rfl
  ·rfl
  ·rfl
  refine dge j6 (fun h => absurd h ((by show ¬ ((-1 : Int) ≥ 0); decide))) ?_
  intro h7_14
  refine F4 (e := false) j6 (P3 j5 (B3 17 [0, 0, 0, 1, 1, 0, 1, 0, 0, 0, 0, 1, 0, 1, 0, 0, 0] [] j2 (by decide +kernel) trivial ?_))
  refine A1 (wF rfl (A2 (A0 (D9 j5 (F8 (v := .ptr _ _ _) j6 (C2 (off := 2) (s := 1) (r := false) j3 kz j3 ?_))))))
  (apply C6 (v := .int _ _) j2; exact Q0; exact Q5; exact j5)
  refine H5 j6 ?_ (fun h => absurd (rfl) h)
  intro h9_4
  refine C3 j5 (A3 (A1 (wT rfl (A2 (A0 (D9 j5 (D9 j5 (C2 (off := 0) (s := 1) (r := false) j3 kz j3 ?_))))))))
  (apply C6 (v := .int _ _) j2; exact Q0; exact Q5; exact j5)
  refine C2 (off := 3) (s := 1) (r := false) j3 kz j3 ?_
  (apply C6 (v := .int _ _) j2; exact Q0; exact Q5; exact j5)
  refine I7 (o125 r.nm 0 (-1) 0 t.tm t.nx r.cl r.le .nsl (.view (n + 1 + 1 + t.lk.length + 1 + 1) 0 (t.lk.length + 1)) Ss rfl htm (by omega) hle (id := id) (lb := n + 1 + 1 + t.lk.length + 1 + 1) (j := k) (R := ((rwW t.lk W).take k ++ [.str r.nm, .int .i64 0, .int .i64 (-1), .int .i64 0, .nsl] :: (rwW t.lk W).drop k)) (by omega) (by omega) (by omega) (by exact Q0) hRI (by exact Q0) hrow) rfl rfl rfl rfl rfl rfl ?_
  refine A3 (A1 (A2 (A0 (D9 j5 (I7 (L0 r.nm t.nx r.cl (t.tm + r.le) 1 .nsl (lb := n + 1 + 1 + t.lk.length + 1 + 1) (j := k) (R := ((rwW t.lk W).take k ++ [.str r.nm, .int .i64 0, .int .i64 (-1), .int .i64 0, .nsl] :: (rwW t.lk W).drop k).set k [.str r.nm, .int .i64 t.nx, .int .i64 r.cl, .int .i64 (t.tm + r.le), .nsl]) (by omega) (by exact Q0) (List.getElem?_set_self hRI)) rfl rfl rfl rfl rfl rfl ?_)))))
  (apply D6 (u := .agg [.int _ _, .int _ _, .int _ _, .int _ _]) j3; exact Q0; exact Q5; rfl; rfl; rfl; rfl; exact kb; rfl; exact j2)
  refine A3 (A1 (B1 (A8 (B0 (E0 (A6 (A7 rfl (by exact Q0) j2 kb rfl) A9) (by (repeat first | exact Ch.refl _ | refine Ch.upd ?_ | refine Ch.app ?_ | assumption)) ?_)))))
  rw [U2 hh (by omega), hp]
  refine ⟨rfl, T.insS hk ⟨r.nm, t.nx, r.cl, t.tm + r.le, []⟩ .nsl (t.nx + 1) (n + 1 + 1 + t.lk.length + 1 + 1) (by omega) ⟨by omega, by omega⟩ ?_ ?_ (.inl ⟨rfl, rfl⟩) (fun a ha => by cases ha) ?_⟩
  ·exact Q0
  ·(simp (disch := (first | omega | assumption)) only [↓appC, ↓updN, ↓updS, ↓app0])
   exact congrArg (fun z => some (Blk.mk z 5 29)) (Y0 hA)
  ·intro a ha h1 h2
   have h3 : a ≠ lb := fun e => h2 (by rw [e]; rfl)
   (simp (disch := (first | omega | assumption)) only [↓appC, ↓updN, ↓updS, ↓app0])
theorem o134z (t : Tb) (r : Rq) (bd : Bd t r) (hh : ¬ hit r.nm t.lk) {k : Nat} (hp : pos r.nm t.lk = k) {id : Nat} {Ss : V} {W : Nat → V} {h : Heap} {n : Nat} (hz : t.lk.length = 0) (T : TabM t id .nsl Ss W h n) : OpenM En 134 [.ptr id 0 0, .agg [.int .i64 r.cl, .int .i64 r.st, .int .i64 r.kd, .int .i64 r.le, .str r.nm]] h n (fun v g m => v = .agg (acqT t r).2.V ∧ TabS (acqT t r).1 id (OwnT id .nsl Ss W t.lk.length) n h g m) := by
 have hid := T.idn
 have kid := T.kid
 have hl4 := bd.l4; have htm := bd.tm; have hnx := bd.nx; have hcl := bd.cl; have hle := bd.le
 have hf := fun (h : Heap) (n : Nat) (T : TabM t id .nsl Ss W h n) => o48x t W r.nm bd.srt (by omega) hh T
 rw [hp] at hf
 have hk : k ≤ t.lk.length := by rw [← hp]; exact Z9 _ _
 have hI := fun vb h n => @o146z (rwW t.lk W) r.nm 0 (-1) 0 .nsl rfl k (by rw [B6]; exact hk) (BF _ _) (by rw [B6]; omega) .nsl vb h n
 rw [B6] at hI
 simp only [idV, fpV, Option.getD_some, Option.getD_none] at hI
 have hsl := T.fl
 have hkl := T.kl
 have hA : ((rwW t.lk W).take k).length = k := by rw [List.length_take, B6]; omega
 have hRI : k < ((rwW t.lk W).take k ++ [.str r.nm, .int .i64 0, .int .i64 (-1), .int .i64 0, .nsl] :: (rwW t.lk W).drop k).length := by rw [List.length_append, hA, List.length_cons]; omega
 have hrow : ((rwW t.lk W).take k ++ [.str r.nm, .int .i64 0, .int .i64 (-1), .int .i64 0, .nsl] :: (rwW t.lk W).drop k)[k]? = some [.str r.nm, .int .i64 0, .int .i64 (-1), .int .i64 0, .nsl] := AX hA
 refine OpenM.of_wp Try.func134 rfl kb ?_
 refine A2 (A0 (K7 (u := .agg [.int _ _, .int _ _, .int _ _, .int _ _, .str _]) j3 rfl j3 (H3 j6 (A3 (A1 (A2 (A0 (D9 j5 (C2 (off := 4) (s := 1) (r := false) j3 kz j3 ?_)))))))))
 (apply C6 (v := .str _) j2; exact Q0; exact Q5; exact j5)
 refine I7 (hf _ _ (T.ext (by omega) (fun a ha => by (simp (disch := (first | omega | assumption)) only [↓appC, ↓updN, ↓updS, ↓app0])))) rfl rfl rfl rfl rfl rfl ?_
 refine rmT j5 (T8 j6 (T8 j6 (D1 j5 (C3 j5 (A3 (A1 (A2 (A2 (A0 (C7 j5 (E1 (c := false) j5 (A3 ?_))))))))))))
 refine A1 (wT rfl (A2 (A2 (A0 (D9 j5 (F8 (v := .ptr _ _ _) j6 (C2 (off := 2) (s := 1) (r := false) j3 kz j3 ?_)))))))
 (apply C6 (v := .nsl) j2; exact Q0; exact Q5; exact j5)
 refine G7 rfl rfl rfl j3 ?_
 refine H5 j6 (fun h => absurd h ((by show ¬ ((0 : Int) = 4); decide))) ?_
 intro h3_5
 refine A3 (A1 (wF rfl (B2 (A1 (B9 [0, 0, 2, 6, 14, 0, 0, 64, 192, 448, 1022, 2047, 4095, 8191] rfl (by decide +kernel) ?_)))))
 refine G9 j5 (G9 j5 (H0 (v := .ptr _ _ _) j6 (C9 (off := 2) (s := 1) (r := false) j3 kz j3 ?_)))
 (apply D5 (v := .nsl) j2; exact Q0; exact Q5; exact j5)
 refine I2 j5 (C9 (off := 4) (s := 1) (r := false) j3 kz j3 ?_)
 (apply D5 (v := .str _) j2; exact Q0; exact Q5; exact j5)
 refine dbd (cs := [.str _, .int _ _, .int _ _, .int _ _, _]) j5 (X6 (es := [[.str _, .int _ _, .int _ _, .int _ _, _]]) j4 kz kb rfl rfl j3 ?_)
 refine dop (hI (n + 1 + 1 + t.lk.length + 1) _ _ (hkl.mono (fun a ha => by have q := hsl a ha; have q1 := q.1; have q2 := q.2; (simp (disch := (first | omega | assumption)) only [↓appC, ↓updN, ↓updS, ↓app0]))) (fun a ha => by have q := hsl a (by first | exact ha | exact congrArg some (Option.some.inj ha) | cases ha); omega) (by omega) (by exact Q0)) rfl rfl rfl rfl rfl rfl ?_
 refine H0 (v := .ptr _ _ _) j6 (C9 (off := 2) (s := 1) (r := false) j3 kz j3 ?_)
 (apply dst (u := .view _ _ _) rfl rfl rfl; exact Q0; exact Q5; rfl; rfl; rfl; rfl; exact kb; rfl; rfl; rfl)
 refine B3 14 [3, 0, 0, 3, 3, 0, 1, 0, 0, 1, 0, 0, 0, 0] [(4, 9)] j2 (by decide +kernel) ?_ ?_
 ·(simp [ClearL, ids, idV, fpV]; try omega)
 refine A1 (A2 (A0 (D9 j5 (F8 (v := .ptr _ _ _) j6 (C2 (off := 2) (s := 1) (r := false) j3 kz j3 ?_)))))
 (apply C6 (v := .view _ _ _) j2; exact Q0; exact Q5; exact j5)
 refine B5 j5 ?_
 (refine r0 ((C1 (b := ⟨((rwW t.lk W).take k ++ [.str r.nm, .int .i64 0, .int .i64 (-1), .int .i64 0, .nsl] :: (rwW t.lk W).drop k), 5, 29⟩) rfl rfl rfl rfl (by exact Q0) rfl (by omega) (by omega)).to (v' := .ptr (n + 1 + 1 + t.lk.length + 1 + 1) k 0) (by rw [G8])) rfl rfl rfl ?_)
 refine raP j5 (A3 (A1 (A2 (B4 (A2 (B9 [0, 1, 3, 7, 0, 16, 63, 127, 255, 511, 1023, 255, 2303, 8191, 16383, 32767, 65535] rfl (by decide +kernel) ?_))))))
 refine G9 j5 (H0 (v := .ptr _ _ _) j6 (C9 (off := 2) (s := 1) (r := false) j3 kz j3 ?_))
 (apply D5 (v := .int _ _) j2; exact Q0; exact Q5; exact j5)
 refine C9 (off := 0) (s := 1) (r := false) j3 kz j3 ?_
 (apply D5 (v := .int _ _) j2; exact Q0; exact Q5; exact j5)
 refine deq j6 (fun h => absurd h (by omega)) ?_
 intro h7_6
 refine F9 j5 (G9 j5 (H0 (v := .ptr _ _ _) j6 ?_))
 (apply L8 (vs := [.str _, .int _ _, .int _ _, .int _ _, _]) j2; exact Q0; exact Q5; rfl; exact kb; exact j4)
 refine C9 (off := 0) (s := 1) (r := false) j3 kz j3 ?_
 (apply D5 (v := .int _ _) j2; exact Q0; exact Q5; exact j5)
 apply O5 [n + 1 + 1 + t.lk.length + 1 + 1] (p66 ⟨r.nm, 0, -1, 0, []⟩ false r.cl (Nat.zero_le _)) rfl j2
 ·exact SnapL.cons _ _ _ _ (SnapC.agg (.cons _ _ _ _ (.str _) (.cons _ _ _ _ (.int _ _) (.cons _ _ _ _ (.int _ _) (.cons _ _ _ _ (.int _ _) (.cons _ _ _ _ .nslW .nil)))))) (SnapL.cons _ _ _ _ (.one _ _ (.int _ _)) SnapL.nil)
 ·rfl
 ·rfl
 ·rfl
 refine dge j6 (fun h => absurd h ((by show ¬ ((-1 : Int) ≥ 0); decide))) ?_
 intro h7_14
 refine F4 (e := false) j6 (P3 j5 (B3 17 [0, 0, 0, 1, 1, 0, 1, 0, 0, 0, 0, 1, 0, 1, 0, 0, 0] [] j2 (by decide +kernel) trivial ?_))
 refine A1 (wF rfl (A2 (A0 (D9 j5 (F8 (v := .ptr _ _ _) j6 (C2 (off := 2) (s := 1) (r := false) j3 kz j3 ?_))))))
 (apply C6 (v := .int _ _) j2; exact Q0; exact Q5; exact j5)
 refine H5 j6 ?_ (fun h => absurd (rfl) h)
 intro h9_4
 refine C3 j5 (A3 (A1 (wT rfl (A2 (A0 (D9 j5 (D9 j5 (C2 (off := 0) (s := 1) (r := false) j3 kz j3 ?_))))))))
 (apply C6 (v := .int _ _) j2; exact Q0; exact Q5; exact j5)
 refine C2 (off := 3) (s := 1) (r := false) j3 kz j3 ?_
 (apply C6 (v := .int _ _) j2; exact Q0; exact Q5; exact j5)
 refine I7 (o125 r.nm 0 (-1) 0 t.tm t.nx r.cl r.le .nsl (.view (n + 1 + 1 + t.lk.length + 1 + 1) 0 (t.lk.length + 1)) Ss rfl htm (by omega) hle (id := id) (lb := n + 1 + 1 + t.lk.length + 1 + 1) (j := k) (R := ((rwW t.lk W).take k ++ [.str r.nm, .int .i64 0, .int .i64 (-1), .int .i64 0, .nsl] :: (rwW t.lk W).drop k)) (by omega) (by omega) (by omega) (by exact Q0) hRI (by exact Q0) hrow) rfl rfl rfl rfl rfl rfl ?_
 refine A3 (A1 (A2 (A0 (D9 j5 (I7 (L0 r.nm t.nx r.cl (t.tm + r.le) 1 .nsl (lb := n + 1 + 1 + t.lk.length + 1 + 1) (j := k) (R := ((rwW t.lk W).take k ++ [.str r.nm, .int .i64 0, .int .i64 (-1), .int .i64 0, .nsl] :: (rwW t.lk W).drop k).set k [.str r.nm, .int .i64 t.nx, .int .i64 r.cl, .int .i64 (t.tm + r.le), .nsl]) (by omega) (by exact Q0) (List.getElem?_set_self hRI)) rfl rfl rfl rfl rfl rfl ?_)))))
 (apply D6 (u := .agg [.int _ _, .int _ _, .int _ _, .int _ _]) j3; exact Q0; exact Q5; rfl; rfl; rfl; rfl; exact kb; rfl; exact j2)
 refine A3 (A1 (B1 (A8 (B0 (E0 (A6 (A7 rfl (by exact Q0) j2 kb rfl) A9) (by (repeat first | exact Ch.refl _ | refine Ch.upd ?_ | refine Ch.app ?_ | assumption)) ?_)))))
 rw [U2 hh (by omega), hp]
 refine ⟨rfl, T.insS hk ⟨r.nm, t.nx, r.cl, t.tm + r.le, []⟩ .nsl (t.nx + 1) (n + 1 + 1 + t.lk.length + 1 + 1) (by omega) ⟨by omega, by omega⟩ ?_ ?_ (.inl ⟨rfl, rfl⟩) (fun a ha => by cases ha) ?_⟩
 ·exact Q0
 ·(simp (disch := (first | omega | assumption)) only [↓appC, ↓updN, ↓updS, ↓app0])
  exact congrArg (fun z => some (Blk.mk z 5 29)) (Y0 hA)
 ·intro a ha h1 h2
  (simp (disch := (first | omega | assumption)) only [↓appC, ↓updN, ↓updS, ↓app0])
theorem o134 (t : Tb) (r : Rq) (bd : Bd t r) {id : Nat} {Sl Ss : V} {W : Nat → V} {h : Heap} {n : Nat} (T : TabM t id Sl Ss W h n) : OpenM En 134 [.ptr id 0 0, .agg [.int .i64 r.cl, .int .i64 r.st, .int .i64 r.kd, .int .i64 r.le, .str r.nm]] h n (fun v g m => v = .agg (acqT t r).2.V ∧ TabS (acqT t r).1 id (OwnT id Sl Ss W t.lk.length) n h g m) := by
 rcases T.kl with ⟨rfl, k⟩ | ⟨lb, rfl, k⟩
 ·have hl : t.lk.length = 0 := by have := congrArg List.length k; rw [B6] at this; exact this
  exact o134z t r bd (fun e => by have := e.1; omega) rfl hl T
 ·rw [B6] at T ⊢
  by_cases hh : hit r.nm t.lk
  ·exact o134h t r bd hh rfl T
  ·exact o134x t r bd hh rfl T
open Go.V
set_option linter.unusedVariables false
set_option linter.unusedSimpArgs false
set_option maxRecDepth 20000
set_option maxHeartbeats 4000000
theorem L1 (c : Int) : ∀ ws : List Wt, wix c ws < ws.length
 | [] => by unfold wix; show (-1 : Int) < _; simp
 | w :: r => by
  have := L1 c r
  unfold wix
  simp only [List.length_cons]
  split
  ·omega
  ·split <;> omega
theorem o135w (w : V) (L : List Wt) (j : Int) (hj : 0 ≤ j ∧ j < L.length) (hL : L.length ≤ 1000) {h : Heap} {n : Nat} (hw : ∀ a, fpV w = some a → a < n) (k : IsL h w (L.map wtV) 2 123) :
  ∃ a : Nat × List (List V), fpV w = some a.1 ∧ V.Open En 135 [w, .int .i64 j, .int .i64 (j + 1)] h n (.view n a.2.length (L.length - 1)) [(a.1, none), (n, some ⟨a.2 ++ (L.take j.toNat ++ L.drop (j.toNat + 1)).map wtV, 2, 123⟩)] (n + 1) := by
 obtain ⟨i, rfl⟩ : ∃ i : Nat, j = i := ⟨j.toNat, by omega⟩
 rcases k with ⟨rfl, k⟩ | ⟨wb, pre, rfl, k⟩
 ·have : L = [] := List.map_eq_nil_iff.1 k
  subst this; simp at hj; omega
 ·refine ⟨(wb, pre), rfl, ?_⟩
  rw [List.length_map]
  exact o135m pre L i (by omega) hL (hw wb rfl) k
theorem TabM.ownLt {t : Tb} {id : Nat} {Sl Ss : V} {W : Nat → V} {h : Heap} {n : Nat} (T : TabM t id Sl Ss W h n) : ∀ a, OwnT id Sl Ss W t.lk.length a → a < n := fun a o => T.lt o
theorem TabS.out {t : Tb} {id : Nat} {F : Nat → Prop} {n n1 m m2 : Nat} {h h1 g g2 : Heap} (S : TabS t id F n1 h1 g m) (hF : ∀ a, F a → a < n) (hn : n ≤ n1) (hh : ∀ a, a < n → h1 a = h a) (hg : ∀ a, a < n ∨ n1 ≤ a → g2 a = g a) (hm : m ≤ m2) : TabS t id F n h g2 m2 := by
 obtain ⟨Sl, Ss, W, T, s1, s2, s3⟩ := S
 refine ⟨Sl, Ss, W, T.keep hm (fun a o => hg a ((s1 a o).imp (hF a) (fun x => x))), fun a o => (s1 a o).imp (fun x => x) (fun x => by omega), fun a ha hna => ?_, by omega⟩
 rw [hg a (.inl ha), s2 a (by omega) hna, hh a ha]
theorem doT_acq {t : Tb} {r : Rq} (h : r.kd = 1) : doT t r = acqT t r := if_pos h
theorem doT_no {t : Tb} {r : Rq} (h : ¬ r.kd = 1) (h2 : ¬ hit r.nm t.lk) : doT t r = (t, bareA 3) := by unfold doT; rw [if_neg h, if_neg h2]
theorem E7 {t : Tb} {r : Rq} (h : ¬ r.kd = 1) (h2 : hit r.nm t.lk) : doT t r = doL t (pos r.nm t.lk) r := by unfold doT; rw [if_neg h, if_pos h2]
theorem o111a (t : Tb) (r : Rq) (bd : Bd t r) {id : Nat} {Sl Ss : V} {W : Nat → V} {h : Heap} {n : Nat} (T : TabM t id Sl Ss W h n) (hk1 : r.kd = 1) : OpenM En 111 [.ptr id 0 0, .agg [.int .i64 r.cl, .int .i64 r.st, .int .i64 r.kd, .int .i64 r.le, .str r.nm]] h n (fun v g m => v = .agg (doT t r).2.V ∧ TabS (doT t r).1 id (OwnT id Sl Ss W t.lk.length) n h g m) := by
 have hid := T.idn
 have kid := T.kid
 have hl4 := bd.l4; have htm := bd.tm; have hnx := bd.nx; have hcl := bd.cl; have hle := bd.le
 refine OpenM.of_wp Try.func111 rfl kb ?_
 refine A2 (A0 (K7 (u := .agg [.int _ _, .int _ _, .int _ _, .int _ _, .str _]) j3 rfl j3 (H3 j6 (A3 (A1 (A2 (A2 (A0 (C2 (off := 2) (s := 1) (r := false) j3 kz j3 ?_)))))))))
 (apply C6 (v := .int _ _) j2; exact Q0; rfl; exact j5)
 refine H5 j6 ?_ (fun h => absurd (hk1) h)
 intro h1_2
 refine A3 (A1 (wT rfl (A2 (A0 (D9 j5 ?_)))))
 (apply F7 (vs := [.int _ _, .int _ _, .int _ _, .int _ _, .str _]) j2; exact Q0; rfl; rfl; exact kb; rfl; exact j3)
 refine L4 (o134 t r bd (T.ext (by omega) (fun a ha => by (simp (disch := (first | omega | assumption)) only [↓appC, ↓updN, ↓updS, ↓app0])))) rfl j5 ?_
 rintro _ g m ⟨rfl, S⟩ hc hle2
 have q2 : g (n + 1) = some ⟨[[.int .i64 0, .int .i64 0, .int .i64 0, .int .i64 0]], 4, 60⟩ := by
  obtain ⟨_, _, _, _, _, s2, _⟩ := S
  rw [s2 (n + 1) (by omega) (fun o => by have := T.lt o; omega)]
  (simp (disch := (first | omega | assumption)) only [↓appC, ↓updN, ↓updS, ↓app0]); rfl
 (apply D6 (u := .agg [.int _ _, .int _ _, .int _ _, .int _ _]) j3; exact Q0; rfl; rfl; rfl; rfl; rfl; exact kb; rfl; exact j2)
 refine A3 (A1 (B1 (B0 ?_)))
 refine E0 (A6 (A7 rfl (by exact Q0) j2 kb rfl) A9) (by first | exact Ch.refl _ | (refine Ch.app ?_; refine Ch.trans ?_ hc; (repeat first | exact Ch.refl _ | refine Ch.upd ?_ | refine Ch.app ?_ | assumption))) ?_
 rw [doT_acq hk1]
 refine ⟨rfl, S.out T.ownLt (by omega) (fun a ha => by (simp (disch := (first | omega | assumption)) only [↓appC, ↓updN, ↓updS, ↓app0])) (fun a ha => by (simp (disch := (first | omega | assumption)) only [↓appC, ↓updN, ↓updS, ↓app0])) (by omega)⟩
theorem o111n (t : Tb) (r : Rq) (bd : Bd t r) {id : Nat} {Sl Ss : V} {W : Nat → V} {h : Heap} {n : Nat} (T : TabM t id Sl Ss W h n) (hk1 : ¬ r.kd = 1) (hh : ¬ hit r.nm t.lk) : OpenM En 111 [.ptr id 0 0, .agg [.int .i64 r.cl, .int .i64 r.st, .int .i64 r.kd, .int .i64 r.le, .str r.nm]] h n (fun v g m => v = .agg (doT t r).2.V ∧ TabS (doT t r).1 id (OwnT id Sl Ss W t.lk.length) n h g m) := by
 have hid := T.idn
 have kid := T.kid
 have hl4 := bd.l4; have htm := bd.tm; have hnx := bd.nx; have hcl := bd.cl; have hle := bd.le
 have hf := fun (h : Heap) (n : Nat) (T : TabM t id Sl Ss W h n) => o48x t W r.nm bd.srt (by omega) hh T
 refine OpenM.of_wp Try.func111 rfl kb ?_
 refine A2 (A0 (K7 (u := .agg [.int _ _, .int _ _, .int _ _, .int _ _, .str _]) j3 rfl j3 (H3 j6 (A3 (A1 (A2 (A2 (A0 (C2 (off := 2) (s := 1) (r := false) j3 kz j3 ?_)))))))))
 (apply C6 (v := .int _ _) j2; exact Q0; rfl; exact j5)
 refine H5 j6 (fun h => absurd h (hk1)) ?_
 intro h1_2
 refine A3 (A1 (wF rfl (B2 (A1 (A2 (A0 (D9 j5 (C2 (off := 4) (s := 1) (r := false) j3 kz j3 ?_))))))))
 (apply C6 (v := .str _) j2; exact Q0; rfl; exact j5)
 refine I7 (hf _ _ (T.ext (by omega) (fun a ha => by (simp (disch := (first | omega | assumption)) only [↓appC, ↓updN, ↓updS, ↓app0])))) rfl rfl rfl rfl rfl rfl ?_
 refine rmT j5 (T8 j6 (T8 j6 (D1 j5 (C3 j5 (A3 (A1 (A2 (A2 (A0 (C7 j5 (E1 (c := false) j5 (A3 ?_))))))))))))
 refine A1 (wT rfl (A2 (A0 (AS (p110 3) rfl j5 ?_))))
 (apply D6 (u := .agg [.int _ _, .int _ _, .int _ _, .int _ _]) j3; exact Q0; rfl; rfl; rfl; rfl; rfl; exact kb; rfl; exact j2)
 refine A3 (A1 (B1 (B0 (E0 (A6 (A7 rfl (by exact Q0) j2 kb rfl) A9) (by (repeat first | exact Ch.refl _ | refine Ch.upd ?_ | refine Ch.app ?_ | assumption)) ?_))))
 rw [doT_no hk1 hh]
 exact ⟨rfl, T.same (by omega) (fun a ha => by (simp (disch := (first | omega | assumption)) only [↓appC, ↓updN, ↓updS, ↓app0]))⟩
theorem o111h (t : Tb) (r : Rq) (bd : Bd t r) (hk1 : ¬ r.kd = 1) (hh : hit r.nm t.lk) {k : Nat} (hp : pos r.nm t.lk = k) {id lb : Nat} {Ss : V} {W : Nat → V} {h : Heap} {n : Nat} (T : TabM t id (.view lb 0 t.lk.length) Ss W h n) : OpenM En 111 [.ptr id 0 0, .agg [.int .i64 r.cl, .int .i64 r.st, .int .i64 r.kd, .int .i64 r.le, .str r.nm]] h n (fun v g m => v = .agg (doT t r).2.V ∧ TabS (doT t r).1 id (OwnT id (.view lb 0 t.lk.length) Ss W t.lk.length) n h g m) := by
 have hid := T.idn
 have kid := T.kid
 have hl4 := bd.l4; have htm := bd.tm; have hnx := bd.nx; have hcl := bd.cl; have hle := bd.le
 have hf := fun (h : Heap) (n : Nat) (T : TabM t id (.view lb 0 t.lk.length) Ss W h n) => o48y t W r.nm bd.srt (by omega) hh T
 rw [hp] at hf
 have hk : k < t.lk.length := by rw [← hp]; exact hh.1
 have hR : k < (rwW t.lk W).length := by rw [B6]; exact hk
 have hw4 := bd.w4 k hk
 have klb : h lb = some ⟨rwW t.lk W, 5, 29⟩ := by
  rcases T.kl with ⟨e, _⟩ | ⟨b, e, q⟩
  ·cases e
  ·injection e with e1 e2 e3; rw [e1]; exact q
 have hlb := T.fl lb rfl
 have hne := hlb.2
 have hkw := T.kw k hk
 have hfw := fun a ha => (T.fw k a hk ha)
 have hfw := fun a ha => (⟨(hfw a ha).1, (hfw a ha).2.1, fun e => (hfw a ha).2.2.1 (by rw [e]; rfl)⟩ : a < n ∧ a ≠ id ∧ a ≠ lb)
 have hrow := G5 (W := W) hk
 have hwl := bd.wl k hk
 generalize hl : t.lk.getD k Lk0 = l at hkw hrow hw4 hwl
 generalize hwk : W k = w at hkw hrow hfw
 have hwc := hkw.cell
 have hwx := L1 r.cl l.ws
 unfold Lk.V at hrow
 refine OpenM.of_wp Try.func111 rfl kb ?_
 refine A2 (A0 (K7 (u := .agg [.int _ _, .int _ _, .int _ _, .int _ _, .str _]) j3 rfl j3 (H3 j6 (A3 (A1 (A2 (A2 (A0 (C2 (off := 2) (s := 1) (r := false) j3 kz j3 ?_)))))))))
 (apply C6 (v := .int _ _) j2; exact Q0; exact Q1; exact j5)
 refine H5 j6 (fun h => absurd h (hk1)) ?_
 intro h1_2
 refine A3 (A1 (wF rfl (B2 (A1 (A2 (A0 (D9 j5 (C2 (off := 4) (s := 1) (r := false) j3 kz j3 ?_))))))))
 (apply C6 (v := .str _) j2; exact Q0; exact Q1; exact j5)
 refine I7 (hf _ _ (T.ext (by omega) (fun a ha => by (simp (disch := (first | omega | assumption)) only [↓appC, ↓updN, ↓updS, ↓app0])))) rfl rfl rfl rfl rfl rfl ?_
 refine rmT j5 (T8 j6 (T8 j6 (D1 j5 (C3 j5 (A3 (A1 (A2 (A2 (A0 (C7 j5 (E1 (c := true) j5 (A3 ?_))))))))))))
 refine A1 (wF rfl (B2 (A1 (A2 (A0 (D9 j5 (F8 (v := .ptr _ _ _) j6 (C2 (off := 2) (s := 1) (r := false) j3 kz j3 ?_))))))))
 (apply C6 (v := .view _ _ _) j2; exact Q0; exact Q1; exact j5)
 refine B5 j5 ?_
 (refine r0 ((C1 (b := ⟨rwW t.lk W, 5, 29⟩) rfl rfl rfl rfl (by exact Q0) rfl (by omega) (by omega)).to (v' := .ptr (lb) k 0) (by rw [G8])) rfl rfl rfl ?_)
 refine raP j5 (A3 (A1 (A2 (A2 (B9 [0, 1, 3, 0, 8, 31, 63] rfl (by decide +kernel) ?_)))))
 refine G9 j5 (H0 (v := .ptr _ _ _) j6 ?_)
 (apply L8 (vs := [.str _, .int _ _, .int _ _, .int _ _, _]) j2; exact Q0; exact Q1; rfl; exact kb; exact j4)
 refine C9 (off := 0) (s := 1) (r := false) j3 kz j3 ?_
 (apply D5 (v := .int _ _) j2; exact Q0; exact Q1; exact j5)
 apply O5 (lb :: (fpV w).toList) (p66 l false r.cl (by omega)) rfl j2
 ·exact SnapL.cons _ _ _ _ (SnapC.agg (.cons _ _ _ _ (.str _) (.cons _ _ _ _ (.int _ _) (.cons _ _ _ _ (.int _ _) (.cons _ _ _ _ (.int _ _) (.cons _ _ _ _ (D7 (hkw.mono (fun a ha => by have q := hfw a ha; (simp (disch := (first | omega | assumption)) only [↓appC, ↓updN, ↓updS, ↓app0]))) (fun a ha => by exact List.mem_cons_of_mem _ (Option.mem_toList.2 ha))) .nil)))))) (SnapL.cons _ _ _ _ (.one _ _ (.int _ _)) SnapL.nil)
 ·rfl
 ·rfl
 ·rfl
 refine daI j5 (B3 7 [0, 1, 1, 0, 1, 0, 0] [] j2 (by decide +kernel) trivial ?_)
 refine A1 (A2 (A0 (B5 j5 ?_)))
 refine rge j6 ?_ ?_ <;> intro h8_1
 ·refine C7 j5 (C2 (off := 2) (s := 1) (r := false) j3 kz j3 ?_)
  (apply C6 (v := .int _ _) j2; exact Q0; exact Q1; exact j5)
  refine H5 j6 ?_ ?_ <;> intro h8_5
  ·refine B7 (e := true) j6 (A3 (A1 (wT rfl (A2 (A0 (D9 j5 (D9 j5 (F8 (v := .ptr _ _ _) j6 (C2 (off := 4) (s := 1) (r := false) j3 kz j3 ?_)))))))))
   (apply C6 (v := w) j2; exact Q0; exact Q1; exact j5)
   refine B5 j5 (B5 j5 (D0 j3 ?_ ?_ j3 ?_))
   ·exact Q4
   ·exact Q4
   refine J9 (o135w w l.ws (wix r.cl l.ws) ⟨h8_1, L1 _ _⟩ (by omega) (fun a ha => by have q := hfw a ha; omega) (hkw.mono (fun a ha => by have q := hfw a ha; have q1 := q.1; have q2 := q.2.1; have q3 := q.2.2; (simp (disch := (first | omega | assumption)) only [↓appC, ↓updN, ↓updS, ↓app0])))) rfl j5 ?_
   rintro p h9_8
   try dsimp only at h9_8
   have qw := hfw p.1 h9_8
   have qw1 := qw.1; have qw2 := qw.2.1; have qw3 := qw.2.2
   refine F8 (v := .ptr _ _ _) j6 (C2 (off := 4) (s := 1) (r := false) j3 kz j3 ?_)
   (apply D6 (u := .view _ _ _) j3; exact Q0; exact Q1; rfl; rfl; rfl; rfl; exact kb; rfl; exact j2)
   refine A3 (A1 (A2 (A0 (D9 j5 (I7 (L0 l.nm l.tk l.hd l.ex 1 (.view (n + 1 + 1 + t.lk.length + 1) p.2.length (l.ws.length - 1)) (lb := lb) (j := k) (R := (rwW t.lk W).set k [.str l.nm, .int .i64 l.tk, .int .i64 l.hd, .int .i64 l.ex, .view (n + 1 + 1 + t.lk.length + 1) p.2.length (l.ws.length - 1)]) (by omega) (by exact Q0) (List.getElem?_set_self hR)) rfl rfl rfl rfl rfl rfl ?_)))))
   (apply D6 (u := .agg [.int _ _, .int _ _, .int _ _, .int _ _]) j3; exact Q0; exact Q1; rfl; rfl; rfl; rfl; exact kb; rfl; exact j2)
   refine A3 (A1 (B1 (B0 (E0 (A6 (A7 rfl (by exact Q0) j2 kb rfl) A9) (by (repeat first | exact Ch.refl _ | refine Ch.upd ?_ | refine Ch.app ?_ | assumption)) ?_))))
   have e : doT t r = (⟨t.tm, t.nx, t.lk.set k ⟨l.nm, l.tk, l.hd, l.ex, l.ws.take (wix r.cl l.ws).toNat ++ l.ws.drop ((wix r.cl l.ws).toNat + 1)⟩, t.sn⟩, tellL 1 l) := by
    rw [E7 hk1 hh, hp]; unfold doL; rw [hl, if_pos ⟨h8_1, h8_5⟩]
   rw [e]
   have hwx := L1 r.cl l.ws
   refine ⟨rfl, T.lockS hk rfl ⟨l.nm, l.tk, l.hd, l.ex, l.ws.take (wix r.cl l.ws).toNat ++ l.ws.drop ((wix r.cl l.ws).toNat + 1)⟩ (.view (n + 1 + 1 + t.lk.length + 1) p.2.length (l.ws.length - 1)) t.nx (by omega) ?_ ?_ ?_ ?_ ?_⟩
   ·exact Q0
   ·(simp (disch := (first | omega | assumption)) only [↓appC, ↓updN, ↓updS, ↓app0]); rfl
   ·refine .inr ⟨n + 1 + 1 + t.lk.length + 1, p.2, ?_, ?_⟩
    ·rw [List.length_map, List.length_append, List.length_take, List.length_drop]; congr 1; omega
    ·(simp (disch := (first | omega | assumption)) only [↓appC, ↓updN, ↓updS, ↓app0])
   ·intro a ha; cases ha; exact ⟨by omega, .inr (by omega)⟩
   ·intro a ha h1 h2 h3
    have h4 : a ≠ p.1 := fun e => h3 (by rw [hwk, e]; exact h9_8)
    (simp (disch := (first | omega | assumption)) only [↓appC, ↓updN, ↓updS, ↓app0])
  ·refine B7 (e := false) j6 (A3 (A1 (wF rfl (B2 (A1 (A2 (B4 (A2 (A0 (D9 j5 (F8 (v := .ptr _ _ _) j6 (C2 (off := 2) (s := 1) (r := false) j3 kz j3 ?_))))))))))))
   (apply C6 (v := .int _ _) j2; exact Q0; exact Q1; exact j5)
   refine H5 j6 ?_ ?_ <;> intro h12_4
   ·refine C3 j5 (A3 (A1 (wT rfl (A2 (A0 (D9 j5 (I7 (L0 l.nm l.tk l.hd l.ex 4 w (lb := lb) (j := k) (R := (rwW t.lk W)) ?_ ?_ ?_) rfl rfl rfl rfl rfl rfl ?_)))))))
    ·exact J8
    ·exact J8
    ·exact J8
    (apply D6 (u := .agg [.int _ _, .int _ _, .int _ _, .int _ _]) j3; exact Q0; exact Q1; rfl; rfl; rfl; rfl; exact kb; rfl; exact j2)
    refine A3 (A1 (B1 (A8 (B0 (E0 (A6 (A7 rfl (by exact Q0) j2 kb rfl) A9) (by (repeat first | exact Ch.refl _ | refine Ch.upd ?_ | refine Ch.app ?_ | assumption)) ?_)))))
    have e : doT t r = (t, tellL 4 l) := by
     rw [E7 hk1 hh, hp]; unfold doL; rw [hl, if_neg (fun e => by have e1 := e.1; have e2 := e.2; first | exact h8_5 e2 | exact h8_1 e1), if_pos h12_4]
    rw [e]
    exact ⟨rfl, T.same (by omega) (fun a ha => by (simp (disch := (first | omega | assumption)) only [↓appC, ↓updN, ↓updS, ↓app0]))⟩
   ·refine C3 j5 (A3 (A1 (wF rfl (A2 (B9 [0, 1, 3, 7, 15, 31, 63, 127, 15, 271, 1023, 2047, 4095] rfl (by decide +kernel) ?_)))))
    refine C9 (off := 2) (s := 1) (r := false) j3 kz j3 ?_
    (apply D5 (v := .int _ _) j2; exact Q0; exact Q1; exact j5)
    refine deq j6 ?_ ?_ <;> intro h14_2
    ·refine F9 j5 (A5 j3 (A5 j3 (A5 j3 (A5 j3 (A5 j3 (A5 j3 (A5 j3 (F4 (e := true) j6 (P3 j5 (B3 13 [0, 0, 0, 0, 0, 0, 0, 0, 0, 0, 0, 1, 0] [] j2 (by decide +kernel) trivial ?_))))))))))
     refine A1 (wT rfl (A2 (A0 (D9 j5 (I7 (L0 l.nm l.tk l.hd l.ex 5 w (lb := lb) (j := k) (R := (rwW t.lk W)) ?_ ?_ ?_) rfl rfl rfl rfl rfl rfl ?_)))))
     ·exact J8
     ·exact J8
     ·exact J8
     (apply D6 (u := .agg [.int _ _, .int _ _, .int _ _, .int _ _]) j3; exact Q0; exact Q1; rfl; rfl; rfl; rfl; exact kb; rfl; exact j2)
     refine A3 (A1 (B1 (A8 (B0 (E0 (A6 (A7 rfl (by exact Q0) j2 kb rfl) A9) (by (repeat first | exact Ch.refl _ | refine Ch.upd ?_ | refine Ch.app ?_ | assumption)) ?_)))))
     have e : doT t r = (t, tellL 5 l) := by
      rw [E7 hk1 hh, hp]; unfold doL; rw [hl, if_neg (fun e => by have e1 := e.1; have e2 := e.2; first | exact h8_5 e2 | exact h8_1 e1), if_neg h12_4]; exact if_pos (by first | exact .inl h14_2 | exact .inr h14_10)
     rw [e]
     exact ⟨rfl, T.same (by omega) (fun a ha => by (simp (disch := (first | omega | assumption)) only [↓appC, ↓updN, ↓updS, ↓app0]))⟩
    ·refine F9 j5 (G9 j5 (H0 (v := .ptr _ _ _) j6 (C9 (off := 2) (s := 1) (r := false) j3 kz j3 ?_)))
     (apply D5 (v := .int _ _) j2; exact Q0; exact Q1; exact j5)
     refine C9 (off := 0) (s := 1) (r := false) j3 kz j3 ?_
     (apply D5 (v := .int _ _) j2; exact Q0; exact Q1; exact j5)
     refine dne j6 ?_ ?_ <;> intro h14_10
     ·refine F4 (e := true) j6 (P3 j5 (B3 13 [0, 0, 0, 1, 0, 1, 0, 0, 0, 0, 0, 1, 0] [] j2 (by decide +kernel) trivial ?_))
      refine A1 (wT rfl (A2 (A0 (D9 j5 (I7 (L0 l.nm l.tk l.hd l.ex 5 w (lb := lb) (j := k) (R := (rwW t.lk W)) ?_ ?_ ?_) rfl rfl rfl rfl rfl rfl ?_)))))
      ·exact J8
      ·exact J8
      ·exact J8
      (apply D6 (u := .agg [.int _ _, .int _ _, .int _ _, .int _ _]) j3; exact Q0; exact Q1; rfl; rfl; rfl; rfl; exact kb; rfl; exact j2)
      refine A3 (A1 (B1 (A8 (B0 (E0 (A6 (A7 rfl (by exact Q0) j2 kb rfl) A9) (by (repeat first | exact Ch.refl _ | refine Ch.upd ?_ | refine Ch.app ?_ | assumption)) ?_)))))
      have e : doT t r = (t, tellL 5 l) := by
       rw [E7 hk1 hh, hp]; unfold doL; rw [hl, if_neg (fun e => by have e1 := e.1; have e2 := e.2; first | exact h8_5 e2 | exact h8_1 e1), if_neg h12_4]; exact if_pos (by first | exact .inl h14_2 | exact .inr h14_10)
      rw [e]
      exact ⟨rfl, T.same (by omega) (fun a ha => by (simp (disch := (first | omega | assumption)) only [↓appC, ↓updN, ↓updS, ↓app0]))⟩
     ·refine F4 (e := false) j6 (P3 j5 (B3 13 [0, 0, 0, 1, 0, 1, 0, 0, 0, 0, 0, 1, 0] [] j2 (by decide +kernel) trivial ?_))
      refine A1 (wF rfl (A2 (A0 (C2 (off := 2) (s := 1) (r := false) j3 kz j3 ?_))))
      (apply C6 (v := .int _ _) j2; exact Q0; exact Q1; exact j5)
      refine H5 j6 ?_ ?_ <;> intro h16_2
      ·refine C3 j5 (A3 (A1 (wT rfl (B9 [0, 0, 2, 6, 14, 0, 32, 126, 255, 511, 1023] rfl (by decide +kernel) ?_))))
       refine G9 j5 (G9 j5 (H0 (v := .ptr _ _ _) j6 (C9 (off := 0) (s := 1) (r := false) j3 kz j3 ?_)))
       (apply D5 (v := .int _ _) j2; exact Q0; exact Q1; exact j5)
       refine C9 (off := 3) (s := 1) (r := false) j3 kz j3 ?_
       (apply D5 (v := .int _ _) j2; exact Q0; exact Q1; exact j5)
       refine T5 j3 ?_ ?_ j3 ?_
       ·exact Q4
       ·exact Q4
       refine H0 (v := .ptr _ _ _) j6 (C9 (off := 3) (s := 1) (r := false) j3 kz j3 ?_)
       (apply dst (u := .int _ _) rfl rfl rfl; exact Q0; exact Q1; rfl; rfl; rfl; rfl; exact kb; rfl; rfl; rfl)
       refine B3 11 [3, 0, 0, 0, 1, 0, 1, 0, 0, 0, 0] [] j2 (by decide +kernel) trivial ?_
       refine C0 (A1 (A2 (A0 (D9 j5 ?_))))
       (first | (refine I7 (L0 l.nm l.tk l.hd (t.tm + r.le) 1 w (lb := lb) (j := k) (R := (rwW t.lk W).set k [.str l.nm, .int .i64 l.tk, .int .i64 l.hd, .int .i64 (t.tm + r.le), w]) (by omega) (by exact Q0) (List.getElem?_set_self hR)) rfl rfl rfl rfl rfl rfl ?_) | (refine I7 (L0 (frL t.tm t.nx l).nm (frL t.tm t.nx l).tk (frL t.tm t.nx l).hd (frL t.tm t.nx l).ex 1 w1 (lb := lb) (j := k) (R := (rwW t.lk W).set k ((frL t.tm t.nx l).V w1)) (by omega) (by exact Q0) (List.getElem?_set_self hR)) rfl rfl rfl rfl rfl rfl ?_))
       (apply D6 (u := .agg [.int _ _, .int _ _, .int _ _, .int _ _]) j3; exact Q0; exact Q1; rfl; rfl; rfl; rfl; exact kb; rfl; exact j2)
       refine A3 (A1 (B1 (E0 (A6 (A7 rfl (by exact Q0) j2 kb rfl) A9) (by (repeat first | exact Ch.refl _ | refine Ch.upd ?_ | refine Ch.app ?_ | assumption)) ?_)))
       first
       |(have e : doT t r = (⟨t.tm, t.nx, t.lk.set k ⟨l.nm, l.tk, l.hd, t.tm + r.le, l.ws⟩, t.sn⟩, ⟨1, l.tk, l.hd, t.tm + r.le⟩) := by
          rw [E7 hk1 hh, hp]; unfold doL; rw [hl, if_neg (fun e => by have e1 := e.1; have e2 := e.2; first | exact h8_5 e2 | exact h8_1 e1), if_neg h12_4, if_neg (fun e => e.elim h14_2 (fun q => h14_10 q)), if_pos h16_2]
         rw [e]
         refine ⟨rfl, T.lockS hk rfl ⟨l.nm, l.tk, l.hd, t.tm + r.le, l.ws⟩ w t.nx (by omega) ?_ ?_ (hkw.mono (fun a ha => by have q := hfw a ha; have q1 := q.1; have q2 := q.2.1; have q3 := q.2.2; (simp (disch := (first | omega | assumption)) only [↓appC, ↓updN, ↓updS, ↓app0]))) (fun a ha => by have q := hfw a ha; exact ⟨by omega, .inl (by rw [hwk]; exact ha)⟩) (fun a ha h1 h2 h3 => by (simp (disch := (first | omega | assumption)) only [↓appC, ↓updN, ↓updS, ↓app0]))⟩
         ·exact Q0
         ·(simp (disch := (first | omega | assumption)) only [↓appC, ↓updN, ↓updS, ↓app0]); rfl)
       |(have e : doT t r = (⟨t.tm, frN t.nx l, t.lk.set k (frL t.tm t.nx l), t.sn⟩, tellL 1 (frL t.tm t.nx l)) := by
          rw [E7 hk1 hh, hp]; unfold doL; rw [hl, if_neg (fun e => by have e1 := e.1; have e2 := e.2; first | exact h8_5 e2 | exact h8_1 e1), if_neg h12_4, if_neg (fun e => e.elim h14_2 (fun q => h14_10 q)), if_neg h16_2]
         rw [e]
         refine ⟨rfl, T.lockS hk rfl (frL t.tm t.nx l) w1 (frN t.nx l) (by omega) ?_ ?_ (h11_2.2.mono (fun a ha => by rw [h11_2.1] at ha; have q := hfw a ha; have q1 := q.1; have q2 := q.2.1; have q3 := q.2.2; (simp (disch := (first | omega | assumption)) only [↓appC, ↓updN, ↓updS, ↓app0]))) (fun a ha => by rw [h11_2.1] at ha; have q := hfw a ha; exact ⟨by omega, .inl (by rw [hwk]; exact ha)⟩) (fun a ha h1 h2 h3 => by (simp (disch := (first | omega | assumption)) only [↓appC, ↓updN, ↓updS, ↓app0]))⟩
         ·exact Q0
         ·(simp (disch := (first | omega | assumption)) only [↓appC, ↓updN, ↓updS, ↓app0]); first | done | rfl)
      ·refine C3 j5 (A3 (A1 (wF rfl (A0 (D9 j5 (D9 j5 ?_))))))
       refine J9 (o96w l w t.tm t.nx (.view lb 0 t.lk.length) Ss htm (by omega) hwl (id := id) (lb := lb) (j := k) (R := rwW t.lk W) (by omega) (by omega) hne (by exact Q0) hR (by exact Q0) hrow (hkw.mono (fun a ha => by have q := hfw a ha; have q1 := q.1; have q2 := q.2.1; have q3 := q.2.2; (simp (disch := (first | omega | assumption)) only [↓appC, ↓updN, ↓updS, ↓app0]))) (fun a ha => by have q := hfw a ha; exact ⟨by omega, q.2.2, q.2.1⟩)) rfl j5 ?_
       rintro w1 h11_2
       try dsimp only at h11_2
       refine A3 (C0 (A1 (A2 (A0 (D9 j5 ?_)))))
       (first | (refine I7 (L0 l.nm l.tk l.hd (t.tm + r.le) 1 w (lb := lb) (j := k) (R := (rwW t.lk W).set k [.str l.nm, .int .i64 l.tk, .int .i64 l.hd, .int .i64 (t.tm + r.le), w]) (by omega) (by exact Q0) (List.getElem?_set_self hR)) rfl rfl rfl rfl rfl rfl ?_) | (refine I7 (L0 (frL t.tm t.nx l).nm (frL t.tm t.nx l).tk (frL t.tm t.nx l).hd (frL t.tm t.nx l).ex 1 w1 (lb := lb) (j := k) (R := (rwW t.lk W).set k ((frL t.tm t.nx l).V w1)) (by omega) (by exact Q0) (List.getElem?_set_self hR)) rfl rfl rfl rfl rfl rfl ?_))
       (apply D6 (u := .agg [.int _ _, .int _ _, .int _ _, .int _ _]) j3; exact Q0; exact Q1; rfl; rfl; rfl; rfl; exact kb; rfl; exact j2)
       refine A3 (A1 (B1 (E0 (A6 (A7 rfl (by exact Q0) j2 kb rfl) A9) (by (repeat first | exact Ch.refl _ | refine Ch.upd ?_ | refine Ch.app ?_ | assumption)) ?_)))
       first
       |(have e : doT t r = (⟨t.tm, t.nx, t.lk.set k ⟨l.nm, l.tk, l.hd, t.tm + r.le, l.ws⟩, t.sn⟩, ⟨1, l.tk, l.hd, t.tm + r.le⟩) := by
          rw [E7 hk1 hh, hp]; unfold doL; rw [hl, if_neg (fun e => by have e1 := e.1; have e2 := e.2; first | exact h8_5 e2 | exact h8_1 e1), if_neg h12_4, if_neg (fun e => e.elim h14_2 (fun q => h14_10 q)), if_pos h16_2]
         rw [e]
         refine ⟨rfl, T.lockS hk rfl ⟨l.nm, l.tk, l.hd, t.tm + r.le, l.ws⟩ w t.nx (by omega) ?_ ?_ (hkw.mono (fun a ha => by have q := hfw a ha; have q1 := q.1; have q2 := q.2.1; have q3 := q.2.2; (simp (disch := (first | omega | assumption)) only [↓appC, ↓updN, ↓updS, ↓app0]))) (fun a ha => by have q := hfw a ha; exact ⟨by omega, .inl (by rw [hwk]; exact ha)⟩) (fun a ha h1 h2 h3 => by (simp (disch := (first | omega | assumption)) only [↓appC, ↓updN, ↓updS, ↓app0]))⟩
         ·exact Q0
         ·(simp (disch := (first | omega | assumption)) only [↓appC, ↓updN, ↓updS, ↓app0]); rfl)
       |(have e : doT t r = (⟨t.tm, frN t.nx l, t.lk.set k (frL t.tm t.nx l), t.sn⟩, tellL 1 (frL t.tm t.nx l)) := by
          rw [E7 hk1 hh, hp]; unfold doL; rw [hl, if_neg (fun e => by have e1 := e.1; have e2 := e.2; first | exact h8_5 e2 | exact h8_1 e1), if_neg h12_4, if_neg (fun e => e.elim h14_2 (fun q => h14_10 q)), if_neg h16_2]
         rw [e]
         refine ⟨rfl, T.lockS hk rfl (frL t.tm t.nx l) w1 (frN t.nx l) (by omega) ?_ ?_ (h11_2.2.mono (fun a ha => by rw [h11_2.1] at ha; have q := hfw a ha; have q1 := q.1; have q2 := q.2.1; have q3 := q.2.2; (simp (disch := (first | omega | assumption)) only [↓appC, ↓updN, ↓updS, ↓app0]))) (fun a ha => by rw [h11_2.1] at ha; have q := hfw a ha; exact ⟨by omega, .inl (by rw [hwk]; exact ha)⟩) (fun a ha h1 h2 h3 => by (simp (disch := (first | omega | assumption)) only [↓appC, ↓updN, ↓updS, ↓app0]))⟩
         ·exact Q0
         ·(simp (disch := (first | omega | assumption)) only [↓appC, ↓updN, ↓updS, ↓app0]); first | done | rfl)
 ·refine C7 j5 (A4 j3 (A4 j3 (A4 j3 (B7 (e := false) j6 (A3 (A1 (wF rfl (B2 (A1 (A2 (B4 (A2 ?_))))))))))))
  refine A0 (D9 j5 (F8 (v := .ptr _ _ _) j6 (C2 (off := 2) (s := 1) (r := false) j3 kz j3 ?_)))
  (apply C6 (v := .int _ _) j2; exact Q0; exact Q1; exact j5)
  refine H5 j6 ?_ ?_ <;> intro h12_4
  ·refine C3 j5 (A3 (A1 (wT rfl (A2 (A0 (D9 j5 (I7 (L0 l.nm l.tk l.hd l.ex 4 w (lb := lb) (j := k) (R := (rwW t.lk W)) ?_ ?_ ?_) rfl rfl rfl rfl rfl rfl ?_)))))))
   ·exact J8
   ·exact J8
   ·exact J8
   (apply D6 (u := .agg [.int _ _, .int _ _, .int _ _, .int _ _]) j3; exact Q0; exact Q1; rfl; rfl; rfl; rfl; exact kb; rfl; exact j2)
   refine A3 (A1 (B1 (A8 (B0 (E0 (A6 (A7 rfl (by exact Q0) j2 kb rfl) A9) (by (repeat first | exact Ch.refl _ | refine Ch.upd ?_ | refine Ch.app ?_ | assumption)) ?_)))))
   have e : doT t r = (t, tellL 4 l) := by
    rw [E7 hk1 hh, hp]; unfold doL; rw [hl, if_neg (fun e => by have e1 := e.1; have e2 := e.2; first | exact h8_5 e2 | exact h8_1 e1), if_pos h12_4]
   rw [e]
   exact ⟨rfl, T.same (by omega) (fun a ha => by (simp (disch := (first | omega | assumption)) only [↓appC, ↓updN, ↓updS, ↓app0]))⟩
  ·refine C3 j5 (A3 (A1 (wF rfl (A2 (B9 [0, 1, 3, 7, 15, 31, 63, 127, 15, 271, 1023, 2047, 4095] rfl (by decide +kernel) ?_)))))
   refine C9 (off := 2) (s := 1) (r := false) j3 kz j3 ?_
   (apply D5 (v := .int _ _) j2; exact Q0; exact Q1; exact j5)
   refine deq j6 ?_ ?_ <;> intro h14_2
   ·refine F9 j5 (A5 j3 (A5 j3 (A5 j3 (A5 j3 (A5 j3 (A5 j3 (A5 j3 (F4 (e := true) j6 (P3 j5 (B3 13 [0, 0, 0, 0, 0, 0, 0, 0, 0, 0, 0, 1, 0] [] j2 (by decide +kernel) trivial ?_))))))))))
    refine A1 (wT rfl (A2 (A0 (D9 j5 (I7 (L0 l.nm l.tk l.hd l.ex 5 w (lb := lb) (j := k) (R := (rwW t.lk W)) ?_ ?_ ?_) rfl rfl rfl rfl rfl rfl ?_)))))
    ·exact J8
    ·exact J8
    ·exact J8
    (apply D6 (u := .agg [.int _ _, .int _ _, .int _ _, .int _ _]) j3; exact Q0; exact Q1; rfl; rfl; rfl; rfl; exact kb; rfl; exact j2)
    refine A3 (A1 (B1 (A8 (B0 (E0 (A6 (A7 rfl (by exact Q0) j2 kb rfl) A9) (by (repeat first | exact Ch.refl _ | refine Ch.upd ?_ | refine Ch.app ?_ | assumption)) ?_)))))
    have e : doT t r = (t, tellL 5 l) := by
     rw [E7 hk1 hh, hp]; unfold doL; rw [hl, if_neg (fun e => by have e1 := e.1; have e2 := e.2; first | exact h8_5 e2 | exact h8_1 e1), if_neg h12_4]; exact if_pos (by first | exact .inl h14_2 | exact .inr h14_10)
    rw [e]
    exact ⟨rfl, T.same (by omega) (fun a ha => by (simp (disch := (first | omega | assumption)) only [↓appC, ↓updN, ↓updS, ↓app0]))⟩
   ·refine F9 j5 (G9 j5 (H0 (v := .ptr _ _ _) j6 (C9 (off := 2) (s := 1) (r := false) j3 kz j3 ?_)))
    (apply D5 (v := .int _ _) j2; exact Q0; exact Q1; exact j5)
    refine C9 (off := 0) (s := 1) (r := false) j3 kz j3 ?_
    (apply D5 (v := .int _ _) j2; exact Q0; exact Q1; exact j5)
    refine dne j6 ?_ ?_ <;> intro h14_10
    ·refine F4 (e := true) j6 (P3 j5 (B3 13 [0, 0, 0, 1, 0, 1, 0, 0, 0, 0, 0, 1, 0] [] j2 (by decide +kernel) trivial ?_))
     refine A1 (wT rfl (A2 (A0 (D9 j5 (I7 (L0 l.nm l.tk l.hd l.ex 5 w (lb := lb) (j := k) (R := (rwW t.lk W)) ?_ ?_ ?_) rfl rfl rfl rfl rfl rfl ?_)))))
     ·exact J8
     ·exact J8
     ·exact J8
     (apply D6 (u := .agg [.int _ _, .int _ _, .int _ _, .int _ _]) j3; exact Q0; exact Q1; rfl; rfl; rfl; rfl; exact kb; rfl; exact j2)
     refine A3 (A1 (B1 (A8 (B0 (E0 (A6 (A7 rfl (by exact Q0) j2 kb rfl) A9) (by (repeat first | exact Ch.refl _ | refine Ch.upd ?_ | refine Ch.app ?_ | assumption)) ?_)))))
     have e : doT t r = (t, tellL 5 l) := by
      rw [E7 hk1 hh, hp]; unfold doL; rw [hl, if_neg (fun e => by have e1 := e.1; have e2 := e.2; first | exact h8_5 e2 | exact h8_1 e1), if_neg h12_4]; exact if_pos (by first | exact .inl h14_2 | exact .inr h14_10)
     rw [e]
     exact ⟨rfl, T.same (by omega) (fun a ha => by (simp (disch := (first | omega | assumption)) only [↓appC, ↓updN, ↓updS, ↓app0]))⟩
    ·refine F4 (e := false) j6 (P3 j5 (B3 13 [0, 0, 0, 1, 0, 1, 0, 0, 0, 0, 0, 1, 0] [] j2 (by decide +kernel) trivial ?_))
     refine A1 (wF rfl (A2 (A0 (C2 (off := 2) (s := 1) (r := false) j3 kz j3 ?_))))
     (apply C6 (v := .int _ _) j2; exact Q0; exact Q1; exact j5)
     refine H5 j6 ?_ ?_ <;> intro h16_2
     ·refine C3 j5 (A3 (A1 (wT rfl (B9 [0, 0, 2, 6, 14, 0, 32, 126, 255, 511, 1023] rfl (by decide +kernel) ?_))))
      refine G9 j5 (G9 j5 (H0 (v := .ptr _ _ _) j6 (C9 (off := 0) (s := 1) (r := false) j3 kz j3 ?_)))
      (apply D5 (v := .int _ _) j2; exact Q0; exact Q1; exact j5)
      refine C9 (off := 3) (s := 1) (r := false) j3 kz j3 ?_
      (apply D5 (v := .int _ _) j2; exact Q0; exact Q1; exact j5)
      refine T5 j3 ?_ ?_ j3 ?_
      ·exact Q4
      ·exact Q4
      refine H0 (v := .ptr _ _ _) j6 (C9 (off := 3) (s := 1) (r := false) j3 kz j3 ?_)
      (apply dst (u := .int _ _) rfl rfl rfl; exact Q0; exact Q1; rfl; rfl; rfl; rfl; exact kb; rfl; rfl; rfl)
      refine B3 11 [3, 0, 0, 0, 1, 0, 1, 0, 0, 0, 0] [] j2 (by decide +kernel) trivial ?_
      refine C0 (A1 (A2 (A0 (D9 j5 ?_))))
      (first | (refine I7 (L0 l.nm l.tk l.hd (t.tm + r.le) 1 w (lb := lb) (j := k) (R := (rwW t.lk W).set k [.str l.nm, .int .i64 l.tk, .int .i64 l.hd, .int .i64 (t.tm + r.le), w]) (by omega) (by exact Q0) (List.getElem?_set_self hR)) rfl rfl rfl rfl rfl rfl ?_) | (refine I7 (L0 (frL t.tm t.nx l).nm (frL t.tm t.nx l).tk (frL t.tm t.nx l).hd (frL t.tm t.nx l).ex 1 w1 (lb := lb) (j := k) (R := (rwW t.lk W).set k ((frL t.tm t.nx l).V w1)) (by omega) (by exact Q0) (List.getElem?_set_self hR)) rfl rfl rfl rfl rfl rfl ?_))
      (apply D6 (u := .agg [.int _ _, .int _ _, .int _ _, .int _ _]) j3; exact Q0; exact Q1; rfl; rfl; rfl; rfl; exact kb; rfl; exact j2)
      refine A3 (A1 (B1 (E0 (A6 (A7 rfl (by exact Q0) j2 kb rfl) A9) (by (repeat first | exact Ch.refl _ | refine Ch.upd ?_ | refine Ch.app ?_ | assumption)) ?_)))
      first
      |(have e : doT t r = (⟨t.tm, t.nx, t.lk.set k ⟨l.nm, l.tk, l.hd, t.tm + r.le, l.ws⟩, t.sn⟩, ⟨1, l.tk, l.hd, t.tm + r.le⟩) := by
         rw [E7 hk1 hh, hp]; unfold doL; rw [hl, if_neg (fun e => by have e1 := e.1; have e2 := e.2; first | exact h8_5 e2 | exact h8_1 e1), if_neg h12_4, if_neg (fun e => e.elim h14_2 (fun q => h14_10 q)), if_pos h16_2]
        rw [e]
        refine ⟨rfl, T.lockS hk rfl ⟨l.nm, l.tk, l.hd, t.tm + r.le, l.ws⟩ w t.nx (by omega) ?_ ?_ (hkw.mono (fun a ha => by have q := hfw a ha; have q1 := q.1; have q2 := q.2.1; have q3 := q.2.2; (simp (disch := (first | omega | assumption)) only [↓appC, ↓updN, ↓updS, ↓app0]))) (fun a ha => by have q := hfw a ha; exact ⟨by omega, .inl (by rw [hwk]; exact ha)⟩) (fun a ha h1 h2 h3 => by (simp (disch := (first | omega | assumption)) only [↓appC, ↓updN, ↓updS, ↓app0]))⟩
        ·exact Q0
        ·(simp (disch := (first | omega | assumption)) only [↓appC, ↓updN, ↓updS, ↓app0]); rfl)
      |(have e : doT t r = (⟨t.tm, frN t.nx l, t.lk.set k (frL t.tm t.nx l), t.sn⟩, tellL 1 (frL t.tm t.nx l)) := by
         rw [E7 hk1 hh, hp]; unfold doL; rw [hl, if_neg (fun e => by have e1 := e.1; have e2 := e.2; first | exact h8_5 e2 | exact h8_1 e1), if_neg h12_4, if_neg (fun e => e.elim h14_2 (fun q => h14_10 q)), if_neg h16_2]
        rw [e]
        refine ⟨rfl, T.lockS hk rfl (frL t.tm t.nx l) w1 (frN t.nx l) (by omega) ?_ ?_ (h11_2.2.mono (fun a ha => by rw [h11_2.1] at ha; have q := hfw a ha; have q1 := q.1; have q2 := q.2.1; have q3 := q.2.2; (simp (disch := (first | omega | assumption)) only [↓appC, ↓updN, ↓updS, ↓app0]))) (fun a ha => by rw [h11_2.1] at ha; have q := hfw a ha; exact ⟨by omega, .inl (by rw [hwk]; exact ha)⟩) (fun a ha h1 h2 h3 => by (simp (disch := (first | omega | assumption)) only [↓appC, ↓updN, ↓updS, ↓app0]))⟩
        ·exact Q0
        ·(simp (disch := (first | omega | assumption)) only [↓appC, ↓updN, ↓updS, ↓app0]); first | done | rfl)
     ·refine C3 j5 (A3 (A1 (wF rfl (A0 (D9 j5 (D9 j5 ?_))))))
      refine J9 (o96w l w t.tm t.nx (.view lb 0 t.lk.length) Ss htm (by omega) hwl (id := id) (lb := lb) (j := k) (R := rwW t.lk W) (by omega) (by omega) hne (by exact Q0) hR (by exact Q0) hrow (hkw.mono (fun a ha => by have q := hfw a ha; have q1 := q.1; have q2 := q.2.1; have q3 := q.2.2; (simp (disch := (first | omega | assumption)) only [↓appC, ↓updN, ↓updS, ↓app0]))) (fun a ha => by have q := hfw a ha; exact ⟨by omega, q.2.2, q.2.1⟩)) rfl j5 ?_
      rintro w1 h11_2
      try dsimp only at h11_2
      refine A3 (C0 (A1 (A2 (A0 (D9 j5 ?_)))))
      (first | (refine I7 (L0 l.nm l.tk l.hd (t.tm + r.le) 1 w (lb := lb) (j := k) (R := (rwW t.lk W).set k [.str l.nm, .int .i64 l.tk, .int .i64 l.hd, .int .i64 (t.tm + r.le), w]) (by omega) (by exact Q0) (List.getElem?_set_self hR)) rfl rfl rfl rfl rfl rfl ?_) | (refine I7 (L0 (frL t.tm t.nx l).nm (frL t.tm t.nx l).tk (frL t.tm t.nx l).hd (frL t.tm t.nx l).ex 1 w1 (lb := lb) (j := k) (R := (rwW t.lk W).set k ((frL t.tm t.nx l).V w1)) (by omega) (by exact Q0) (List.getElem?_set_self hR)) rfl rfl rfl rfl rfl rfl ?_))
      (apply D6 (u := .agg [.int _ _, .int _ _, .int _ _, .int _ _]) j3; exact Q0; exact Q1; rfl; rfl; rfl; rfl; exact kb; rfl; exact j2)
      refine A3 (A1 (B1 (E0 (A6 (A7 rfl (by exact Q0) j2 kb rfl) A9) (by (repeat first | exact Ch.refl _ | refine Ch.upd ?_ | refine Ch.app ?_ | assumption)) ?_)))
      first
      |(have e : doT t r = (⟨t.tm, t.nx, t.lk.set k ⟨l.nm, l.tk, l.hd, t.tm + r.le, l.ws⟩, t.sn⟩, ⟨1, l.tk, l.hd, t.tm + r.le⟩) := by
         rw [E7 hk1 hh, hp]; unfold doL; rw [hl, if_neg (fun e => by have e1 := e.1; have e2 := e.2; first | exact h8_5 e2 | exact h8_1 e1), if_neg h12_4, if_neg (fun e => e.elim h14_2 (fun q => h14_10 q)), if_pos h16_2]
        rw [e]
        refine ⟨rfl, T.lockS hk rfl ⟨l.nm, l.tk, l.hd, t.tm + r.le, l.ws⟩ w t.nx (by omega) ?_ ?_ (hkw.mono (fun a ha => by have q := hfw a ha; have q1 := q.1; have q2 := q.2.1; have q3 := q.2.2; (simp (disch := (first | omega | assumption)) only [↓appC, ↓updN, ↓updS, ↓app0]))) (fun a ha => by have q := hfw a ha; exact ⟨by omega, .inl (by rw [hwk]; exact ha)⟩) (fun a ha h1 h2 h3 => by (simp (disch := (first | omega | assumption)) only [↓appC, ↓updN, ↓updS, ↓app0]))⟩
        ·exact Q0
        ·(simp (disch := (first | omega | assumption)) only [↓appC, ↓updN, ↓updS, ↓app0]); rfl)
      |(have e : doT t r = (⟨t.tm, frN t.nx l, t.lk.set k (frL t.tm t.nx l), t.sn⟩, tellL 1 (frL t.tm t.nx l)) := by
         rw [E7 hk1 hh, hp]; unfold doL; rw [hl, if_neg (fun e => by have e1 := e.1; have e2 := e.2; first | exact h8_5 e2 | exact h8_1 e1), if_neg h12_4, if_neg (fun e => e.elim h14_2 (fun q => h14_10 q)), if_neg h16_2]
        rw [e]
        refine ⟨rfl, T.lockS hk rfl (frL t.tm t.nx l) w1 (frN t.nx l) (by omega) ?_ ?_ (h11_2.2.mono (fun a ha => by rw [h11_2.1] at ha; have q := hfw a ha; have q1 := q.1; have q2 := q.2.1; have q3 := q.2.2; (simp (disch := (first | omega | assumption)) only [↓appC, ↓updN, ↓updS, ↓app0]))) (fun a ha => by rw [h11_2.1] at ha; have q := hfw a ha; exact ⟨by omega, .inl (by rw [hwk]; exact ha)⟩) (fun a ha h1 h2 h3 => by (simp (disch := (first | omega | assumption)) only [↓appC, ↓updN, ↓updS, ↓app0]))⟩
        ·exact Q0
        ·(simp (disch := (first | omega | assumption)) only [↓appC, ↓updN, ↓updS, ↓app0]); first | done | rfl)
theorem o111 (t : Tb) (r : Rq) (bd : Bd t r) {id : Nat} {Sl Ss : V} {W : Nat → V} {h : Heap} {n : Nat} (T : TabM t id Sl Ss W h n) : OpenM En 111 [.ptr id 0 0, .agg [.int .i64 r.cl, .int .i64 r.st, .int .i64 r.kd, .int .i64 r.le, .str r.nm]] h n (fun v g m => v = .agg (doT t r).2.V ∧ TabS (doT t r).1 id (OwnT id Sl Ss W t.lk.length) n h g m) := by
 by_cases hk1 : r.kd = 1
 ·exact o111a t r bd T hk1
 ·by_cases hh : hit r.nm t.lk
  ·rcases T.kl with ⟨rfl, k⟩ | ⟨lb, rfl, k⟩
   ·have hl : t.lk.length = 0 := by have := congrArg List.length k; rw [B6] at this; exact this
    exact absurd hh.1 (by omega)
   ·rw [B6] at T ⊢
    exact o111h t r bd hk1 hh rfl T
  ·exact o111n t r bd T hk1 hh
open Go.V
set_option linter.unusedVariables false
set_option linter.unusedSimpArgs false
set_option maxRecDepth 20000
set_option maxHeartbeats 4000000
theorem OpenM.conv {E : Env} {f : FuncId} {args : List V} {h : Heap} {n : Nat} {Φ Ψ : V → Heap → Nat → Prop} (H : OpenM E f args h n Φ) (k : ∀ v g m, Φ v g m → Ψ v g m) : OpenM E f args h n Ψ := H.mono fun v g m _ x => k v g m x
theorem o60s (t : Tb) (now : Int) (hM : 0 ≤ max t.tm now ∧ max t.tm now ≤ 1000000000) (hn : 0 ≤ t.nx ∧ t.nx ≤ 999900) (hL : t.lk.length ≤ 100) (hwl : ∀ j, j < t.lk.length → ∀ i, i < (t.lk.getD j Lk0).ws.length → 1 ≤ ((t.lk.getD j Lk0).ws.getD i (0, 0)).2 ∧ ((t.lk.getD j Lk0).ws.getD i (0, 0)).2 ≤ 1000)
  {id : Nat} {Sl Ss : V} {W : Nat → V} {h : Heap} {n : Nat} (T : TabM t id Sl Ss W h n) : OpenM En 60 [.ptr id 0 0, .int .i64 now] h n (fun v g m => v = .tup [] ∧ TabS (exT t now) id (OwnT id Sl Ss W t.lk.length) n h g m) := by
 refine OpenM.conv (o60m t now hM hn hL hwl T) ?_
 rintro v g m ⟨rfl, W1, T1, f1, f2, f3⟩
 have hl : (exT t now).lk.length = t.lk.length := V3 _ _ _
 refine ⟨rfl, Sl, Ss, W1, T1, fun a o => ?_, f2, f3⟩
 rcases o with h | h | h | ⟨i, hi, h⟩
 ·exact .inl (.inl h)
 ·exact .inl (.inr (.inl h))
 ·exact .inl (.inr (.inr (.inl h)))
 ·rw [hl] at hi
  rcases f1 i a hi h with h2 | h2
  ·exact .inl (.inr (.inr (.inr ⟨i, hi, h2⟩)))
  ·exact .inr h2
theorem TabS.comp {t2 : Tb} {id : Nat} {F : Nat → Prop} {n n2 m2 k : Nat} {h g1 h2 g2 : Heap} {Sl1 Ss1 : V} {W1 : Nat → V} (s1 : ∀ a, OwnT id Sl1 Ss1 W1 k a → F a ∨ n ≤ a) (s2 : ∀ a, a < n → ¬ F a → g1 a = h a) (hn : n ≤ n2) (e : ∀ a, a < n → h2 a = g1 a)
  (S2 : TabS t2 id (OwnT id Sl1 Ss1 W1 k) n2 h2 g2 m2) : TabS t2 id F n h g2 m2 := by
 obtain ⟨Sl, Ss, W, T, x1, x2, x3⟩ := S2
 refine ⟨Sl, Ss, W, T, fun a o => ?_, fun a ha hna => ?_, by omega⟩
 ·rcases x1 a o with q | q
  ·exact s1 a q
  ·exact .inr (by omega)
 ·have hno : ¬ OwnT id Sl1 Ss1 W1 k a := fun o => (s1 a o).elim hna (fun q => by omega)
  rw [x2 a (by omega) hno, e a ha, s2 a ha hna]
theorem TabM.snS2 {t : Tb} {id : Nat} {Sl Ss : V} {W : Nat → V} {h g : Heap} {n0 n m : Nat} (T : TabM t id Sl Ss W h n) (sn : List Sn) (Ss' : V) (h0 : n0 ≤ n) (hnm : n ≤ m) (g1 : g id = some ⟨[[.int .i64 t.tm, .int .i64 t.nx, Sl, Ss']], 4, 35⟩)
  (g2 : IsZ g Ss' (sn.map Sn.V) 6 115) (g4 : ∀ a, fpV Ss' = some a → a < m ∧ (fpV Ss = some a ∨ n ≤ a)) (g5 : ∀ a, OwnT id Sl Ss W t.lk.length a → a ≠ id → fpV Ss ≠ some a → g a = h a) (g6 : ∀ a, a < n0 → a ≠ id → fpV Ss ≠ some a → g a = h a) : TabS ⟨t.tm, t.nx, t.lk, sn⟩ id (OwnT id Sl Ss W t.lk.length) n0 h g m := by
 refine ⟨Sl, Ss', W, T.setSn sn Ss' hnm g1 g2 g4 g5, fun a o => ?_, fun a ha hna => g6 a ha (fun e => hna (.inl e)) (fun e => hna (.inr (.inr (.inl e)))), by omega⟩
 rcases o with h | h | h | h
 ·exact .inl (.inl h)
 ·exact .inl (.inr (.inl h))
 ·rcases (g4 a h).2 with q | q
  ·exact .inl (.inr (.inr (.inl q)))
  ·exact .inr (by omega)
 ·exact .inl (.inr (.inr (.inr h)))
theorem acqL_sn (t : Tb) (k : Nat) (r : Rq) : (acqL t k r).1.sn = t.sn := by unfold acqL; repeat (first | rfl | split)
theorem BG (t : Tb) (r : Rq) : (doT t r).1.sn = t.sn := by
 unfold doT
 split
 ·unfold acqT
  split
  ·exact acqL_sn _ _ _
  ·split <;> rfl
 ·split
  ·unfold doL; repeat (first | rfl | split)
  ·rfl
theorem reqT_same {t : Tb} {r : Rq} (h : snH r.cl t.sn) (h1 : (t.sn.getD (snP r.cl t.sn) Sn0).st = r.st) : reqT t r = (t, (t.sn.getD (snP r.cl t.sn) Sn0).an) := if_pos ⟨h, h1⟩
theorem reqT_old {t : Tb} {r : Rq} (h : snH r.cl t.sn) (h1 : ¬ (t.sn.getD (snP r.cl t.sn) Sn0).st = r.st) (h2 : (t.sn.getD (snP r.cl t.sn) Sn0).st > r.st) : reqT t r = (t, bareA 7) := by unfold reqT; rw [if_neg (fun e => h1 e.2), if_pos ⟨h, h2⟩]
theorem AA {t : Tb} {r : Rq} (h : ¬ snH r.cl t.sn) (h1 : t.sn.length = 6) : reqT t r = (t, bareA 6) := by unfold reqT; rw [if_neg (fun e => h e.1), if_neg (fun e => h e.1), if_pos ⟨h, h1⟩]
theorem Y1 {t : Tb} {r : Rq} (h : ¬ snH r.cl t.sn) (h1 : ¬ t.sn.length = 6) : reqT t r = (⟨(doT t r).1.tm, (doT t r).1.nx, (doT t r).1.lk, insL t.sn (snP r.cl t.sn) ⟨r.cl, r.st, (doT t r).2⟩⟩, (doT t r).2) := by
 unfold reqT; rw [if_neg (fun e => h e.1), if_neg (fun e => h e.1), if_neg (fun e => h1 e.2), if_neg h]
theorem V1 {t : Tb} {r : Rq} (h : snH r.cl t.sn) (h1 : ¬ (t.sn.getD (snP r.cl t.sn) Sn0).st = r.st) (h2 : ¬ (t.sn.getD (snP r.cl t.sn) Sn0).st > r.st) : reqT t r = (⟨(doT t r).1.tm, (doT t r).1.nx, (doT t r).1.lk, t.sn.set (snP r.cl t.sn) ⟨r.cl, r.st, (doT t r).2⟩⟩, (doT t r).2) := by
 unfold reqT; rw [if_neg (fun e => h1 e.2), if_neg (fun e => h2 e.2), if_neg (fun e => e.1 h), if_pos h]
theorem S5 {L : List Sn} {k : Nat} (h : k < L.length) : (L.map Sn.V)[k]? = some (L.getD k Sn0).V := D8 Sn.V Sn0 h
theorem lenZ {h : Heap} {v : V} {rows : List (List V)} {sz ty : Nat} (k : IsZ h v rows sz ty) : lenV v = some rows.length := by
 rcases k with ⟨rfl, rfl⟩ | ⟨id, rfl, _⟩ <;> rfl
theorem o112x (L : List Sn) (s : Sn) (i : Nat) (hi : i ≤ L.length) (hL : L.length ≤ 900) {Ss : V} {vb : Nat} {h : Heap} {n : Nat} (k0 : IsZ h Ss (L.map Sn.V) 6 115) (hs : ∀ a, fpV Ss = some a → a < n ∧ a ≠ vb) (hv : vb < n) (k1 : h vb = some ⟨[s.V], 6, 115⟩) :
  ∃ z : Nat, (z = n ∨ fpV Ss = some z) ∧ V.Open En 112 [Ss, .int .i64 i, .view vb 0 1] h n (.view n 0 (L.length + 1)) [(z, none), (n, some ⟨(insL L i s).map Sn.V, 6, 115⟩)] (n + 1) := by
 refine ⟨idV n Ss, ?_, o112z L s i hi hL k0 hs hv k1⟩
 unfold idV
 cases h2 : fpV Ss with
 | none => exact .inl rfl
 | some a => exact .inr rfl
structure Bq (t : Tb) (now : Int) (r : Rq) : Prop where
 bd : Bd (exT t now) r
 hM : 0 ≤ max t.tm now ∧ max t.tm now ≤ 1000000000
 hn : 0 ≤ t.nx ∧ t.nx ≤ 999900
 hL : t.lk.length ≤ 100
 hwl : ∀ j, j < t.lk.length → ∀ i, i < (t.lk.getD j Lk0).ws.length → 1 ≤ ((t.lk.getD j Lk0).ws.getD i (0, 0)).2 ∧ ((t.lk.getD j Lk0).ws.getD i (0, 0)).2 ≤ 1000
 scl : ∀ j, j < t.sn.length → 0 ≤ (t.sn.getD j Sn0).cl ∧ (t.sn.getD j Sn0).cl ≤ 255
 srt : SrtS t.sn
 s6 : t.sn.length ≤ 6
theorem o71h (t : Tb) (now : Int) (r : Rq) (bq : Bq t now r) (hh :  snH r.cl t.sn) {k : Nat} (hp : snP r.cl t.sn = k) {id : Nat} {Sl Ss : V} {W : Nat → V} {h : Heap} {n : Nat} (T : TabM t id Sl Ss W h n) : OpenM En 71 [.ptr id 0 0, .int .i64 now, .agg [.int .i64 r.cl, .int .i64 r.st, .int .i64 r.kd, .int .i64 r.le, .str r.nm]] h n (fun v g m => v = .agg (rqT t now r).2.V ∧ TabS (rqT t now r).1 id (OwnT id Sl Ss W t.lk.length) n h g m) := by
 have hid := T.idn
 have hcl := bq.bd.cl
 have hs6 := bq.s6
 have hf := fun (Ss : V) (h : Heap) (n : Nat) => @o108z t.sn r.cl hcl bq.scl bq.srt (by omega) Ss h n
 rw [hp] at hf
 rw [decide_eq_true hh] at hf
 have hk : k < t.sn.length := by rw [← hp]; exact hh.1
 have hrow := S5 hk
 refine OpenM.of_wp Try.func71 rfl kb ?_
 refine A2 (A0 (K7 (u := .agg [.int _ _, .int _ _, .int _ _, .int _ _, .str _]) j3 rfl j3 (H3 j6 (A3 (A1 (A2 (A0 (D9 j5 (B5 j5 ?_)))))))))
 refine L4 (o60s t now bq.hM bq.hn bq.hL bq.hwl (T.ext (by omega) (fun a ha => by (simp (disch := (first | omega | assumption)) only [↓appC, ↓updN, ↓updS, ↓app0])))) rfl j5 ?_
 rintro _ g1 m1 ⟨rfl, S1⟩ hc1 hl1
 have S0 := S1
 obtain ⟨Sl1, Ss1, W1, T1, s1, s2, s3⟩ := S1
 obtain q1 : g1 n = some ⟨[[.int .i64 r.cl, .int .i64 r.st, .int .i64 r.kd, .int .i64 r.le, .str r.nm]], 5, 64⟩ := by
  rw [s2 n (by omega) (fun o => by have := T.lt o; omega)]
  (simp (disch := (first | omega | assumption)) only [↓appC, ↓updN, ↓updS, ↓app0]); rfl
 obtain q2 : g1 (n + 1) = some ⟨[[.int .i64 0, .int .i64 0, .int .i64 0, .int .i64 0]], 4, 60⟩ := by
  rw [s2 (n + 1) (by omega) (fun o => by have := T.lt o; omega)]
  (simp (disch := (first | omega | assumption)) only [↓appC, ↓updN, ↓updS, ↓app0]); rfl
 have kid1 : g1 id = some ⟨[[.int .i64 (exT t now).tm, .int .i64 (exT t now).nx, Sl1, Ss1]], 4, 35⟩ := T1.kid
 have ks1 : IsZ g1 Ss1 (t.sn.map Sn.V) 6 115 := T1.ks
 have kc1 := ks1.cell
 have hlen1 := lenZ ks1
 rw [List.length_map] at hlen1
 have hl1' : n + 2 ≤ m1 := hl1
 obtain ⟨sb, hsb, ksb⟩ := ks1.some (by rw [List.length_map]; omega)
 rw [List.length_map] at hsb
 subst hsb
 have hs1 := T1.fs sb rfl
 have hs2 := hs1.1; have hs3 := hs1.2.1
 refine A3 (A1 (A2 (B9 [0, 1, 3, 7, 0, 16, 63, 127, 255, 255, 511, 2047] rfl (by decide +kernel) ?_)))
 refine G9 j5 (H0 (v := .ptr _ _ _) j6 (C9 (off := 3) (s := 1) (r := false) j3 kz j3 ?_))
 (apply D5 (v := .view sb 0 t.sn.length) j2; exact kid1; rfl; exact j5)
 refine C9 (off := 0) (s := 1) (r := false) j3 kz j3 ?_
 (apply D5 (v := .int _ _) j2; exact Q0; exact C8; exact j5)
 refine dop (hf (.view sb 0 t.sn.length) _ _ (fun a ha => (T1.fs a ha).1) ks1) rfl rfl rfl rfl rfl rfl ?_
 refine dmT j5 (dex j6 (dex j6 (daI j5 (P3 j5 (B3 12 [0, 0, 0, 0, 0, 3, 1, 0, 1, 0, 0, 0] [] j2 (by decide +kernel) trivial ?_)))))
 refine A1 (A2 (B4 (A2 (B9 [0, 1, 3, 7, 15, 31, 3, 127, 255, 511, 3, 1027, 4095, 8191, 16383] rfl (by decide +kernel) ?_))))
 refine F9 j5 (F9 j5 (G9 j5 (H0 (v := .ptr _ _ _) j6 (C9 (off := 3) (s := 1) (r := false) j3 kz j3 ?_))))
 (apply D5 (v := .view sb 0 t.sn.length) j2; exact Q0; rfl; exact j5)
 refine I2 j5 ?_
 (refine d0 ((C1 (b := ⟨t.sn.map Sn.V, 6, 115⟩) rfl rfl rfl rfl (by exact Q0) rfl (by omega) (by omega)).to (v' := .ptr (sb) k 0) (by rw [G8])) rfl rfl rfl ?_)
 refine C9 (off := 1) (s := 1) (r := false) j3 kz j3 ?_
 (apply D5 (v := .int _ _) j2; exact Q0; exact C8; exact j5)
 refine C9 (off := 1) (s := 1) (r := false) j3 kz j3 ?_
 (apply D5 (v := .int _ _) j2; exact Q0; exact C8; exact j5)
 refine deq j6 ?_ ?_ <;> intro h3_12
 ·refine F4 (e := true) j6 (P3 j5 (B3 15 [0, 0, 0, 1, 0, 1, 0, 1, 0, 1, 0, 0, 0, 0, 0] [] j2 (by decide +kernel) trivial ?_))
  refine A1 (wT rfl (A2 (A0 (D9 j5 (F8 (v := .ptr _ _ _) j6 (C2 (off := 3) (s := 1) (r := false) j3 kz j3 ?_))))))
  (apply C6 (v := .view sb 0 t.sn.length) j2; exact Q0; rfl; exact j5)
  refine B5 j5 ?_
  (refine r0 ((C1 (b := ⟨t.sn.map Sn.V, 6, 115⟩) rfl rfl rfl rfl (by exact Q0) rfl (by omega) (by omega)).to (v' := .ptr (sb) k 0) (by rw [G8])) rfl rfl rfl ?_)
  refine C2 (off := 2) (s := 4) (r := true) j3 kz j3 ?_
  (apply F7 (vs := [.int _ _, .int _ _, .int _ _, .int _ _]) j2; exact Q0; exact C8; rfl; exact kb; rfl; exact j3)
  (apply D6 (u := .agg [.int _ _, .int _ _, .int _ _, .int _ _]) j3; exact Q0; exact C8; rfl; rfl; rfl; rfl; exact kb; rfl; exact j2)
  refine A3 (A1 (B1 (A8 (B0 (E0 (A6 (A7 rfl (by exact Q0) j2 kb rfl) A9) (by (repeat first | exact Ch.refl _ | refine Ch.trans ?_ hc2 | refine Ch.trans ?_ hc1 | refine Ch.upd ?_ | refine Ch.app ?_)) ?_)))))
  have e : rqT t now r = (exT t now, (t.sn.getD k Sn0).an) := by unfold rqT; rw [reqT_same (t := exT t now) hh (by show (t.sn.getD (snP r.cl t.sn) Sn0).st = r.st; rw [hp]; exact h3_12)]; show (_, (t.sn.getD (snP r.cl t.sn) Sn0).an) = _; rw [hp]
  rw [e]
  exact ⟨rfl, S0.out T.ownLt (by omega) (fun a ha => by (simp (disch := (first | omega | assumption)) only [↓appC, ↓updN, ↓updS, ↓app0])) (fun a ha => by (simp (disch := (first | omega | assumption)) only [↓appC, ↓updN, ↓updS, ↓app0])) (by omega)⟩
 ·refine F4 (e := false) j6 (P3 j5 (B3 15 [0, 0, 0, 1, 0, 1, 0, 1, 0, 1, 0, 0, 0, 0, 0] [] j2 (by decide +kernel) trivial ?_))
  refine A1 (wF rfl (A2 (B9 [0, 1, 3, 7, 15, 31, 3, 127, 255, 511, 3, 1027, 4095, 8191, 16383] rfl (by decide +kernel) ?_)))
  refine F9 j5 (F9 j5 (G9 j5 (H0 (v := .ptr _ _ _) j6 (C9 (off := 3) (s := 1) (r := false) j3 kz j3 ?_))))
  (apply D5 (v := .view sb 0 t.sn.length) j2; exact Q0; rfl; exact j5)
  refine I2 j5 ?_
  (refine d0 ((C1 (b := ⟨t.sn.map Sn.V, 6, 115⟩) rfl rfl rfl rfl (by exact Q0) rfl (by omega) (by omega)).to (v' := .ptr (sb) k 0) (by rw [G8])) rfl rfl rfl ?_)
  refine C9 (off := 1) (s := 1) (r := false) j3 kz j3 ?_
  (apply D5 (v := .int _ _) j2; exact Q0; exact C8; exact j5)
  refine C9 (off := 1) (s := 1) (r := false) j3 kz j3 ?_
  (apply D5 (v := .int _ _) j2; exact Q0; exact C8; exact j5)
  refine dgt j6 ?_ ?_ <;> intro h5_12
  ·refine F4 (e := true) j6 (P3 j5 (B3 15 [0, 0, 0, 1, 0, 1, 0, 1, 0, 1, 0, 0, 0, 0, 0] [] j2 (by decide +kernel) trivial ?_))
   refine A1 (wT rfl (A2 (A0 (AS (p110 _) rfl j5 ?_))))
   (apply D6 (u := .agg [.int _ _, .int _ _, .int _ _, .int _ _]) j3; exact Q0; exact C8; rfl; rfl; rfl; rfl; exact kb; rfl; exact j2)
   refine A3 (A1 (B1 (A8 (B0 (E0 (A6 (A7 rfl (by exact Q0) j2 kb rfl) A9) (by (repeat first | exact Ch.refl _ | refine Ch.trans ?_ hc2 | refine Ch.trans ?_ hc1 | refine Ch.upd ?_ | refine Ch.app ?_)) ?_)))))
   have e : rqT t now r = (exT t now, bareA 7) := by unfold rqT; exact reqT_old (t := exT t now) hh (by show ¬ (t.sn.getD (snP r.cl t.sn) Sn0).st = r.st; rw [hp]; exact h3_12) (by show (t.sn.getD (snP r.cl t.sn) Sn0).st > r.st; rw [hp]; exact h5_12)
   rw [e]
   exact ⟨rfl, S0.out T.ownLt (by omega) (fun a ha => by (simp (disch := (first | omega | assumption)) only [↓appC, ↓updN, ↓updS, ↓app0])) (fun a ha => by (simp (disch := (first | omega | assumption)) only [↓appC, ↓updN, ↓updS, ↓app0])) (by omega)⟩
  ·refine F4 (e := false) j6 (P3 j5 (B3 15 [0, 0, 0, 1, 0, 1, 0, 1, 0, 1, 0, 0, 0, 0, 0] [] j2 (by decide +kernel) trivial ?_))
   refine A1 (wF rfl (A2 (A0 (C7 j5 (E1 (c := true) j5 (C7 j5 (A4 j3 (A4 j3 (A4 j3 (A4 j3 (A4 j3 (A4 j3 ?_))))))))))))
   refine B7 (e := false) j6 (C3 j5 (A3 (A1 (wF rfl (B2 (C0 (A1 (A2 (A0 (D9 j5 ?_))))))))))
   (apply F7 (vs := [.int _ _, .int _ _, .int _ _, .int _ _, .str _]) j2; exact Q0; exact C8; rfl; exact kb; rfl; exact j3)
   refine L4 (o111 (exT t now) r bq.bd (T1.ext (by omega) (fun a ha => by first | rfl | (simp (disch := (first | omega | assumption)) only [↓appC, ↓updN, ↓updS, ↓app0])))) rfl j5 ?_
   rintro _ g2 m2 ⟨rfl, S2⟩ hc2 hl2
   have hn2 : ¬ OwnT id Sl1 (.view sb 0 t.sn.length) W1 (exT t now).lk.length n := fun o => (s1 n o).elim (fun e => by have := T.lt e; omega) (fun e => by omega)
   have hn3 : ¬ OwnT id Sl1 (.view sb 0 t.sn.length) W1 (exT t now).lk.length (n + 1) := fun o => (s1 (n + 1) o).elim (fun e => by have := T.lt e; omega) (fun e => by omega)
   have hn4 : ∀ a, a < n → g1 a = h a ∨ OwnT id Sl Ss W t.lk.length a := fun a ha => by
    by_cases o : OwnT id Sl Ss W t.lk.length a
    ·exact .inr o
    ·left; rw [s2 a (by omega) o]; (simp (disch := (first | omega | assumption)) only [↓appC, ↓updN, ↓updS, ↓app0])
   have S2' := S2
   obtain ⟨Sl2, Ss2, W2, T2, x1, x2, x3⟩ := S2'
   have q3 : g2 n = some ⟨[[.int .i64 r.cl, .int .i64 r.st, .int .i64 r.kd, .int .i64 r.le, .str r.nm]], 5, 64⟩ := by rw [x2 n (by omega) hn2]; exact q1
   have q4 : g2 (n + 1) = some ⟨[[.int .i64 0, .int .i64 0, .int .i64 0, .int .i64 0]], 4, 60⟩ := by rw [x2 (n + 1) (by omega) hn3]; exact q2
   have kid2 : g2 id = some ⟨[[.int .i64 (doT (exT t now) r).1.tm, .int .i64 (doT (exT t now) r).1.nx, Sl2, Ss2]], 4, 35⟩ := T2.kid
   have ks2 : IsZ g2 Ss2 (t.sn.map Sn.V) 6 115 := by have := T2.ks; rwa [BG] at this
   have kc2 := ks2.cell
   have hO : ∀ a, OwnT id Sl2 Ss2 W2 (doT (exT t now) r).1.lk.length a → a < n ∨ n + 2 ≤ a := fun a o => (x1 a o).elim (fun e => (s1 a e).elim (fun e => .inl (T.lt e)) (fun e => .inr e)) (fun e => .inr (by omega))
   have s1' : ∀ a, OwnT id Sl1 (.view sb 0 t.sn.length) W1 (exT t now).lk.length a → OwnT id Sl Ss W t.lk.length a ∨ n ≤ a := fun a o => (s1 a o).imp (fun e => e) (fun e => by omega)
   have s2' : ∀ a, a < n → ¬ OwnT id Sl Ss W t.lk.length a → g1 a = h a := fun a ha o => (hn4 a ha).elim (fun e => e) (fun e => absurd e o)
   have x1' : ∀ a, OwnT id Sl2 Ss2 W2 (doT (exT t now) r).1.lk.length a → OwnT id Sl1 (.view sb 0 t.sn.length) W1 (exT t now).lk.length a ∨ n ≤ a := fun a o => (x1 a o).imp (fun e => e) (fun e => by omega)
   have x2' : ∀ a, a < n → ¬ OwnT id Sl1 (.view sb 0 t.sn.length) W1 (exT t now).lk.length a → g2 a = g1 a := fun a ha o => x2 a (by omega) o
   obtain ⟨sb2, hsb2, ksb2⟩ := ks2.some (by rw [List.length_map]; omega)
   rw [List.length_map] at hsb2
   subst hsb2
   have hs4 := T2.fs sb2 rfl
   have hs5 := hs4.1; have hs6' := hs4.2.1
   have hs7 := hO sb2 (.inr (.inr (.inl rfl)))
   refine H3 j6 ?_
   (apply D6 (u := .agg [.int _ _, .int _ _, .int _ _, .int _ _]) j3; exact Q0; exact C8; rfl; rfl; rfl; rfl; exact kb; rfl; exact j2)
   refine A3 (A1 (A2 (A0 (C2 (off := 0) (s := 1) (r := false) j3 kz j3 ?_))))
   (apply C6 (v := .int _ _) j2; exact Q0; exact C8; exact j5)
   refine C2 (off := 1) (s := 1) (r := false) j3 kz j3 ?_
   (apply C6 (v := .int _ _) j2; exact Q0; exact C8; exact j5)
   (apply F7 (vs := [.int _ _, .int _ _, .int _ _, .int _ _]) j2; exact Q0; exact C8; rfl; exact kb; rfl; exact j3)
   refine N0 (cs := [.int _ _, .int _ _, .int _ _, .int _ _, .int _ _, .int _ _]) j5 (H3 j6 ?_)
   (apply D6 (u := .agg [.int _ _, .int _ _, .int _ _, .int _ _, .int _ _, .int _ _]) j3; exact Q0; exact C8; rfl; rfl; rfl; rfl; exact kb; rfl; exact j2)
   refine A3 (A1 (A2 (A2 (A0 (C7 j5 (A3 (A1 (wT rfl (B9 [0, 1, 3, 7, 0, 0, 63, 127] rfl (by decide +kernel) ?_)))))))))
   refine G9 j5 (H0 (v := .ptr _ _ _) j6 (C9 (off := 3) (s := 1) (r := false) j3 kz j3 ?_))
   (apply D5 (v := .view sb2 0 t.sn.length) j2; exact Q0; rfl; exact j5)
   refine I2 j5 ?_
   (apply L8 (vs := [.int _ _, .int _ _, .int _ _, .int _ _, .int _ _, .int _ _]) j2; exact Q0; exact C8; rfl; exact kb; exact j4)
   (refine d0 ((C1 (b := ⟨t.sn.map Sn.V, 6, 115⟩) rfl rfl rfl rfl (by exact Q0) rfl (by omega) (by omega)).to (v' := .ptr (sb2) k 0) (by rw [G8])) rfl rfl rfl ?_)
   (apply dst (u := .agg [.int _ _, .int _ _, .int _ _, .int _ _, .int _ _, .int _ _]) rfl rfl rfl; exact Q0; exact C8; rfl; rfl; rfl; rfl; exact kb; rfl; rfl; rfl)
   refine B3 8 [3, 1, 1, 0, 1, 0, 0, 0] [] j2 (by decide +kernel) trivial ?_
   refine A1 (A2 (A0 ?_))
   (apply F7 (vs := [.int _ _, .int _ _, .int _ _, .int _ _]) j2; exact Q0; exact C8; rfl; exact kb; rfl; exact j3)
   (apply D6 (u := .agg [.int _ _, .int _ _, .int _ _, .int _ _]) j3; exact Q0; exact C8; rfl; rfl; rfl; rfl; exact kb; rfl; exact j2)
   refine A3 (A1 (B1 (E0 (A6 (A7 rfl (by exact Q0) j2 kb rfl) A9) (by (repeat first | exact Ch.refl _ | refine Ch.trans ?_ hc2 | refine Ch.trans ?_ hc1 | refine Ch.upd ?_ | refine Ch.app ?_)) ?_)))
   have e : rqT t now r = (⟨(doT (exT t now) r).1.tm, (doT (exT t now) r).1.nx, (doT (exT t now) r).1.lk, t.sn.set k ⟨r.cl, r.st, (doT (exT t now) r).2⟩⟩, (doT (exT t now) r).2) := by
    unfold rqT; rw [V1 (t := exT t now) hh (by show ¬ (t.sn.getD (snP r.cl t.sn) Sn0).st = r.st; rw [hp]; exact h3_12) (by show ¬ (t.sn.getD (snP r.cl t.sn) Sn0).st > r.st; rw [hp]; exact h5_12)]
    show (Tb.mk _ _ _ (t.sn.set (snP r.cl t.sn) _), _) = _; rw [hp]
   rw [e]
   refine ⟨rfl, ?_⟩
   refine TabS.comp (n2 := n) s1' s2' (Nat.le_refl _) (fun _ _ => rfl) (TabS.comp (n2 := n) x1' x2' (Nat.le_refl _) (fun _ _ => rfl) (T2.snS2 (n0 := n) (t.sn.set k ⟨r.cl, r.st, (doT (exT t now) r).2⟩) (.view sb2 0 t.sn.length) (by omega) (by omega) ?_ (.inr ⟨sb2, by rw [List.length_map, List.length_set], ?_⟩) (fun a ha => ⟨by cases ha; omega, .inl ha⟩) (fun a o h1 h2 => ?_) (fun a ha h1 h2 => ?_)))
   ·exact Q0
   ·(simp (disch := (first | omega | assumption)) only [↓appC, ↓updN, ↓updS, ↓app0])
    exact congrArg (fun z => some (Blk.mk z 6 115)) (by rw [List.map_set]; rfl)
   ·have h3 : a ≠ sb2 := fun e => h2 (by rw [e]; rfl)
    have h4 := hO a o
    have h5 := T2.lt o
    (simp (disch := (first | omega | assumption)) only [↓appC, ↓updN, ↓updS, ↓app0])
   ·have h3 : a ≠ sb2 := fun e => h2 (by rw [e]; rfl)
    (simp (disch := (first | omega | assumption)) only [↓appC, ↓updN, ↓updS, ↓app0])
theorem o71x (t : Tb) (now : Int) (r : Rq) (bq : Bq t now r) (hh : ¬ snH r.cl t.sn) {k : Nat} (hp : snP r.cl t.sn = k) {id : Nat} {Sl Ss : V} {W : Nat → V} {h : Heap} {n : Nat} (T : TabM t id Sl Ss W h n) : OpenM En 71 [.ptr id 0 0, .int .i64 now, .agg [.int .i64 r.cl, .int .i64 r.st, .int .i64 r.kd, .int .i64 r.le, .str r.nm]] h n (fun v g m => v = .agg (rqT t now r).2.V ∧ TabS (rqT t now r).1 id (OwnT id Sl Ss W t.lk.length) n h g m) := by
 have hid := T.idn
 have hcl := bq.bd.cl
 have hs6 := bq.s6
 have hf := fun (Ss : V) (h : Heap) (n : Nat) => @o108z t.sn r.cl hcl bq.scl bq.srt (by omega) Ss h n
 rw [hp] at hf
 rw [decide_eq_false hh] at hf
 have hk : k ≤ t.sn.length := by rw [← hp]; exact snP_le _ _
 refine OpenM.of_wp Try.func71 rfl kb ?_
 refine A2 (A0 (K7 (u := .agg [.int _ _, .int _ _, .int _ _, .int _ _, .str _]) j3 rfl j3 (H3 j6 (A3 (A1 (A2 (A0 (D9 j5 (B5 j5 ?_)))))))))
 refine L4 (o60s t now bq.hM bq.hn bq.hL bq.hwl (T.ext (by omega) (fun a ha => by (simp (disch := (first | omega | assumption)) only [↓appC, ↓updN, ↓updS, ↓app0])))) rfl j5 ?_
 rintro _ g1 m1 ⟨rfl, S1⟩ hc1 hl1
 have S0 := S1
 obtain ⟨Sl1, Ss1, W1, T1, s1, s2, s3⟩ := S1
 obtain q1 : g1 n = some ⟨[[.int .i64 r.cl, .int .i64 r.st, .int .i64 r.kd, .int .i64 r.le, .str r.nm]], 5, 64⟩ := by
  rw [s2 n (by omega) (fun o => by have := T.lt o; omega)]
  (simp (disch := (first | omega | assumption)) only [↓appC, ↓updN, ↓updS, ↓app0]); rfl
 obtain q2 : g1 (n + 1) = some ⟨[[.int .i64 0, .int .i64 0, .int .i64 0, .int .i64 0]], 4, 60⟩ := by
  rw [s2 (n + 1) (by omega) (fun o => by have := T.lt o; omega)]
  (simp (disch := (first | omega | assumption)) only [↓appC, ↓updN, ↓updS, ↓app0]); rfl
 have kid1 : g1 id = some ⟨[[.int .i64 (exT t now).tm, .int .i64 (exT t now).nx, Sl1, Ss1]], 4, 35⟩ := T1.kid
 have ks1 : IsZ g1 Ss1 (t.sn.map Sn.V) 6 115 := T1.ks
 have kc1 := ks1.cell
 have hlen1 := lenZ ks1
 rw [List.length_map] at hlen1
 have hl1' : n + 2 ≤ m1 := hl1
 refine A3 (A1 (A2 (B9 [0, 1, 3, 7, 0, 16, 63, 127, 255, 255, 511, 2047] rfl (by decide +kernel) ?_)))
 refine G9 j5 (H0 (v := .ptr _ _ _) j6 (C9 (off := 3) (s := 1) (r := false) j3 kz j3 ?_))
 (apply D5 (v := Ss1) j2; exact kid1; rfl; exact j5)
 refine C9 (off := 0) (s := 1) (r := false) j3 kz j3 ?_
 (apply D5 (v := .int _ _) j2; exact Q0; exact C8; exact j5)
 refine dop (hf Ss1 _ _ (fun a ha => (T1.fs a ha).1) ks1) rfl rfl rfl rfl rfl rfl ?_
 refine dmT j5 (dex j6 (dex j6 (daI j5 (P3 j5 (B3 12 [0, 0, 0, 0, 0, 3, 1, 0, 1, 0, 0, 0] [] j2 (by decide +kernel) trivial ?_)))))
 refine A1 (A2 (B4 (A2 (B9 [0, 1, 3, 7, 15, 31, 3, 127, 255, 511, 3, 1027, 4095, 8191, 16383] rfl (by decide +kernel) ?_))))
 refine F9 j5 (F9 j5 (A5 j3 (A5 j3 (A5 j3 (A5 j3 (A5 j3 (A5 j3 (A5 j3 (A5 j3 (A5 j3 (A5 j3 (A5 j3 ?_))))))))))))
 refine F4 (e := false) j6 (P3 j5 (B3 15 [0, 0, 0, 0, 0, 0, 0, 0, 0, 0, 0, 0, 0, 0, 0] [] j2 (by decide +kernel) trivial ?_))
 refine A1 (wF rfl (A2 (B9 [0, 1, 3, 7, 15, 31, 3, 127, 255, 511, 3, 1027, 4095, 8191, 16383] rfl (by decide +kernel) ?_)))
 refine F9 j5 (F9 j5 (A5 j3 (A5 j3 (A5 j3 (A5 j3 (A5 j3 (A5 j3 (A5 j3 (A5 j3 (A5 j3 (A5 j3 (A5 j3 ?_))))))))))))
 refine F4 (e := false) j6 (P3 j5 (B3 15 [0, 0, 0, 0, 0, 0, 0, 0, 0, 0, 0, 0, 0, 0, 0] [] j2 (by decide +kernel) trivial ?_))
 refine A1 (wF rfl (A2 (A0 (C7 j5 (E1 (c := false) j5 (C7 j5 (D9 j5 (F8 (v := .ptr _ _ _) j6 (C2 (off := 3) (s := 1) (r := false) j3 kz j3 ?_)))))))))
 (apply C6 (v := Ss1) j2; exact Q0; rfl; exact j5)
 (refine G7 rfl rfl hlen1 j3 ?_)
 refine H5 j6 ?_ ?_ <;> intro h7_8
 ·refine B7 (e := true) j6 (C3 j5 (A3 (A1 (wT rfl (A2 (A0 (AS (p110 _) rfl j5 ?_)))))))
  (apply D6 (u := .agg [.int _ _, .int _ _, .int _ _, .int _ _]) j3; exact Q0; exact C8; rfl; rfl; rfl; rfl; exact kb; rfl; exact j2)
  refine A3 (A1 (B1 (A8 (B0 (E0 (A6 (A7 rfl (by exact Q0) j2 kb rfl) A9) (by (repeat first | exact Ch.refl _ | refine Ch.trans ?_ hc2 | refine Ch.trans ?_ hc1 | refine Ch.upd ?_ | refine Ch.app ?_)) ?_)))))
  have e : rqT t now r = (exT t now, bareA 6) := by unfold rqT; exact AA (t := exT t now) hh (by show t.sn.length = 6; omega)
  rw [e]
  exact ⟨rfl, S0.out T.ownLt (by omega) (fun a ha => by (simp (disch := (first | omega | assumption)) only [↓appC, ↓updN, ↓updS, ↓app0])) (fun a ha => by (simp (disch := (first | omega | assumption)) only [↓appC, ↓updN, ↓updS, ↓app0])) (by omega)⟩
 ·refine B7 (e := false) j6 (C3 j5 (A3 (A1 (wF rfl (B2 (C0 (A1 (A2 (A0 (D9 j5 ?_))))))))))
  (apply F7 (vs := [.int _ _, .int _ _, .int _ _, .int _ _, .str _]) j2; exact Q0; exact C8; rfl; exact kb; rfl; exact j3)
  refine L4 (o111 (exT t now) r bq.bd (T1.ext (by omega) (fun a ha => by first | rfl | (simp (disch := (first | omega | assumption)) only [↓appC, ↓updN, ↓updS, ↓app0])))) rfl j5 ?_
  rintro _ g2 m2 ⟨rfl, S2⟩ hc2 hl2
  have hn2 : ¬ OwnT id Sl1 Ss1 W1 (exT t now).lk.length n := fun o => (s1 n o).elim (fun e => by have := T.lt e; omega) (fun e => by omega)
  have hn3 : ¬ OwnT id Sl1 Ss1 W1 (exT t now).lk.length (n + 1) := fun o => (s1 (n + 1) o).elim (fun e => by have := T.lt e; omega) (fun e => by omega)
  have hn4 : ∀ a, a < n → g1 a = h a ∨ OwnT id Sl Ss W t.lk.length a := fun a ha => by
   by_cases o : OwnT id Sl Ss W t.lk.length a
   ·exact .inr o
   ·left; rw [s2 a (by omega) o]; (simp (disch := (first | omega | assumption)) only [↓appC, ↓updN, ↓updS, ↓app0])
  have S2' := S2
  obtain ⟨Sl2, Ss2, W2, T2, x1, x2, x3⟩ := S2'
  have q3 : g2 n = some ⟨[[.int .i64 r.cl, .int .i64 r.st, .int .i64 r.kd, .int .i64 r.le, .str r.nm]], 5, 64⟩ := by rw [x2 n (by omega) hn2]; exact q1
  have q4 : g2 (n + 1) = some ⟨[[.int .i64 0, .int .i64 0, .int .i64 0, .int .i64 0]], 4, 60⟩ := by rw [x2 (n + 1) (by omega) hn3]; exact q2
  have kid2 : g2 id = some ⟨[[.int .i64 (doT (exT t now) r).1.tm, .int .i64 (doT (exT t now) r).1.nx, Sl2, Ss2]], 4, 35⟩ := T2.kid
  have ks2 : IsZ g2 Ss2 (t.sn.map Sn.V) 6 115 := by have := T2.ks; rwa [BG] at this
  have kc2 := ks2.cell
  have hO : ∀ a, OwnT id Sl2 Ss2 W2 (doT (exT t now) r).1.lk.length a → a < n ∨ n + 2 ≤ a := fun a o => (x1 a o).elim (fun e => (s1 a e).elim (fun e => .inl (T.lt e)) (fun e => .inr e)) (fun e => .inr (by omega))
  have s1' : ∀ a, OwnT id Sl1 Ss1 W1 (exT t now).lk.length a → OwnT id Sl Ss W t.lk.length a ∨ n ≤ a := fun a o => (s1 a o).imp (fun e => e) (fun e => by omega)
  have s2' : ∀ a, a < n → ¬ OwnT id Sl Ss W t.lk.length a → g1 a = h a := fun a ha o => (hn4 a ha).elim (fun e => e) (fun e => absurd e o)
  have x1' : ∀ a, OwnT id Sl2 Ss2 W2 (doT (exT t now) r).1.lk.length a → OwnT id Sl1 Ss1 W1 (exT t now).lk.length a ∨ n ≤ a := fun a o => (x1 a o).imp (fun e => e) (fun e => by omega)
  have x2' : ∀ a, a < n → ¬ OwnT id Sl1 Ss1 W1 (exT t now).lk.length a → g2 a = g1 a := fun a ha o => x2 a (by omega) o
  refine H3 j6 ?_
  (apply D6 (u := .agg [.int _ _, .int _ _, .int _ _, .int _ _]) j3; exact Q0; exact C8; rfl; rfl; rfl; rfl; exact kb; rfl; exact j2)
  refine A3 (A1 (A2 (A0 (C2 (off := 0) (s := 1) (r := false) j3 kz j3 ?_))))
  (apply C6 (v := .int _ _) j2; exact Q0; exact C8; exact j5)
  refine C2 (off := 1) (s := 1) (r := false) j3 kz j3 ?_
  (apply C6 (v := .int _ _) j2; exact Q0; exact C8; exact j5)
  (apply F7 (vs := [.int _ _, .int _ _, .int _ _, .int _ _]) j2; exact Q0; exact C8; rfl; exact kb; rfl; exact j3)
  refine N0 (cs := [.int _ _, .int _ _, .int _ _, .int _ _, .int _ _, .int _ _]) j5 (H3 j6 ?_)
  (apply D6 (u := .agg [.int _ _, .int _ _, .int _ _, .int _ _, .int _ _, .int _ _]) j3; exact Q0; exact C8; rfl; rfl; rfl; rfl; exact kb; rfl; exact j2)
  refine A3 (A1 (A2 (A2 (A0 (C7 j5 (A3 (A1 (wF rfl (B9 [0, 0, 2, 6, 14, 0, 0, 64, 254, 511, 1023, 2047] rfl (by decide +kernel) ?_)))))))))
  refine G9 j5 (G9 j5 (H0 (v := .ptr _ _ _) j6 (C9 (off := 3) (s := 1) (r := false) j3 kz j3 ?_)))
  (apply D5 (v := Ss2) j2; exact Q0; rfl; exact j5)
  refine I2 j5 ?_
  (apply L8 (vs := [.int _ _, .int _ _, .int _ _, .int _ _, .int _ _, .int _ _]) j2; exact Q0; exact C8; rfl; exact kb; exact j4)
  refine X6 (es := [[.int _ _, .int _ _, .int _ _, .int _ _, .int _ _, .int _ _]]) j4 kz kb rfl rfl j3 ?_
  refine dopX (o112x t.sn ⟨r.cl, r.st, (doT (exT t now) r).2⟩ k hk (by omega) (vb := m2 + 1 + 1) (ks2.mono (fun a ha => by have q := T2.fs a ha; have q1 := q.1; have q5 := q.2.1; (simp (disch := (first | omega | assumption)) only [↓appC, ↓updN, ↓updS, ↓app0]))) (fun a ha => by have q := T2.fs a ha; omega) (by omega) (by exact Q0)) rfl j5 ?_
  rintro z h13_8
  try dsimp only at h13_8
  have hz3 : (z < m2 ∨ z = m2 + 1 + 1 + 1) ∧ z ≠ id ∧ (z < n ∨ n + 2 ≤ z) := by
   rcases h13_8 with e | e
   ·have := T2.idn; exact ⟨.inr (by omega), by omega, .inr (by omega)⟩
   ·have q := T2.fs z e; exact ⟨.inl q.1, q.2.1, hO z (.inr (.inr (.inl e)))⟩
  have hz1 := hz3.1; have hz2 := hz3.2.1; have hz4 := hz3.2.2
  refine H0 (v := .ptr _ _ _) j6 (C9 (off := 3) (s := 1) (r := false) j3 kz j3 ?_)
  (apply dst (u := .view _ _ _) rfl rfl rfl; exact Q0; exact C8; rfl; rfl; rfl; rfl; exact kb; rfl; rfl; rfl)
  refine B3 12 [3, 0, 0, 3, 3, 1, 0, 1, 0, 0, 0, 0] [(4, 7)] j2 (by decide +kernel) ?_ ?_
  ·(simp [ClearL, ids]; try omega)
  refine A1 (A2 (A0 ?_))
  (apply F7 (vs := [.int _ _, .int _ _, .int _ _, .int _ _]) j2; exact Q0; exact C8; rfl; exact kb; rfl; exact j3)
  (apply D6 (u := .agg [.int _ _, .int _ _, .int _ _, .int _ _]) j3; exact Q0; exact C8; rfl; rfl; rfl; rfl; exact kb; rfl; exact j2)
  refine A3 (A1 (B1 (E0 (A6 (A7 rfl (by exact Q0) j2 kb rfl) A9) (by (repeat first | exact Ch.refl _ | refine Ch.trans ?_ hc2 | refine Ch.trans ?_ hc1 | refine Ch.upd ?_ | refine Ch.app ?_)) ?_)))
  have e : rqT t now r = (⟨(doT (exT t now) r).1.tm, (doT (exT t now) r).1.nx, (doT (exT t now) r).1.lk, insL t.sn k ⟨r.cl, r.st, (doT (exT t now) r).2⟩⟩, (doT (exT t now) r).2) := by
   unfold rqT; rw [Y1 (t := exT t now) hh (by show ¬ t.sn.length = 6; omega)]
   show (Tb.mk _ _ _ (insL t.sn (snP r.cl t.sn) _), _) = _; rw [hp]
  rw [e]
  refine ⟨rfl, ?_⟩
  refine TabS.comp (n2 := n) s1' s2' (Nat.le_refl _) (fun _ _ => rfl) (TabS.comp (n2 := n) x1' x2' (Nat.le_refl _) (fun _ _ => rfl) (T2.snS2 (n0 := n) (insL t.sn k ⟨r.cl, r.st, (doT (exT t now) r).2⟩) (.view (m2 + 1 + 1 + 1) 0 (t.sn.length + 1)) (by omega) (by omega) ?_ (.inr ⟨m2 + 1 + 1 + 1, by rw [List.length_map, J0 hk], ?_⟩) (fun a ha => ⟨by cases ha; omega, .inr (by cases ha; omega)⟩) (fun a o h1 h2 => ?_) (fun a ha h1 h2 => ?_)))
  ·exact Q0
  ·(simp (disch := (first | omega | assumption)) only [↓appC, ↓updN, ↓updS, ↓app0])
  ·have h3 : a ≠ z := fun e => h13_8.elim (fun q => by have := T2.lt o; omega) (fun q => h2 (by rw [e]; exact q))
   have h4 := hO a o
   have h5 := T2.lt o
   (simp (disch := (first | omega | assumption)) only [↓appC, ↓updN, ↓updS, ↓app0])
  ·have h3 : a ≠ z := fun e => h13_8.elim (fun q => by omega) (fun q => h2 (by rw [e]; exact q))
   (simp (disch := (first | omega | assumption)) only [↓appC, ↓updN, ↓updS, ↓app0])
theorem o71 (t : Tb) (now : Int) (r : Rq) (bq : Bq t now r) {id : Nat} {Sl Ss : V} {W : Nat → V} {h : Heap} {n : Nat} (T : TabM t id Sl Ss W h n) : OpenM En 71 [.ptr id 0 0, .int .i64 now, .agg [.int .i64 r.cl, .int .i64 r.st, .int .i64 r.kd, .int .i64 r.le, .str r.nm]] h n (fun v g m => v = .agg (rqT t now r).2.V ∧ TabS (rqT t now r).1 id (OwnT id Sl Ss W t.lk.length) n h g m) := by
 by_cases hh : snH r.cl t.sn
 ·exact o71h t now r bq hh rfl T
 ·exact o71x t now r bq hh rfl T
open Go.V
set_option linter.unusedVariables false
set_option linter.unusedSimpArgs false
set_option maxRecDepth 20000
set_option maxHeartbeats 4000000
theorem mixR_set2 {A B A' B' : Nat → List V} {m i : Nat} {z : List V} (h : i < m) (e : A' i = z) (ea : ∀ j, j < i → A' j = A j) (eb : ∀ j, i < j → B' j = B j) : (mixR A B m i).set (0 + i) z = mixR A' B' m (i + 1) := by
 subst e
 apply List.ext_getElem?
 intro j
 rw [Nat.zero_add, List.getElem?_set]
 by_cases hj : j < m
 ·rw [mixR_get hj, mixR_get hj]
  by_cases e : i = j
  ·subst e; rw [if_pos rfl, if_pos (by rw [BH]; exact h), if_pos (by omega)]
  ·rw [if_neg e]
   by_cases h3 : j < i
   ·rw [if_pos h3, if_pos (by omega), ea j h3]
   ·rw [if_neg h3, if_neg (by omega), eb j (by omega)]
 ·rw [if_neg (by omega), List.getElem?_eq_none (by rw [BH]; omega), List.getElem?_eq_none (by rw [BH]; omega)]
structure SpI (t : Tb) (M : Int) (id lb i m : Nat) (w : Nat → Nat) (g : Heap) : Prop where
 le : i ≤ t.lk.length
 idm : id < m
 lbm : lb < m
 m6 : 6 < m
 ne : lb ≠ id
 ne6 : lb ≠ 6 ∧ lb ≠ 1 ∧ id ≠ 6 ∧ id ≠ 1
 wm : ∀ j, j < t.lk.length → w j < m
 wi : ∀ j, j < t.lk.length → w j ≠ id
 wl : ∀ j, j < t.lk.length → w j ≠ lb
 w6 : ∀ j, j < t.lk.length → w j ≠ 6
 w1 : ∀ j, j < t.lk.length → w j ≠ 1
 inj : ∀ a b, a < t.lk.length → b < t.lk.length → w a = w b → a = b
 kid : g id = some ⟨[[.int .i64 M, .int .i64 (nxL M t.nx (t.lk.take i)), .view lb 0 t.lk.length, .view 6 0 t.sn.length]], 4, 35⟩
 klb : g lb = some ⟨mixR (rwV w (exL M t.nx t.lk)) (rwV w t.lk) t.lk.length i, 5, 29⟩
 kw : ∀ j, j < t.lk.length → g (w j) = if j < i then wsF (exL M t.nx t.lk) j else wsF t.lk j
 k6 : g 6 = some ⟨t.sn.map Sn.V, 6, 115⟩
 k1 : g 1 = some ⟨[[.int .i64 0, .int .i64 0, .nsl, .nsl]], 4, 35⟩
 nxb : t.nx ≤ nxL M t.nx (t.lk.take i) ∧ nxL M t.nx (t.lk.take i) ≤ t.nx + (i : Int)
theorem SpI.stay {t : Tb} {M : Int} {id lb i m : Nat} {w : Nat → Nat} {g : Heap} (s : SpI t M id lb i m w g) (hi : i < t.lk.length) (hg : ¬ gone M (t.lk.getD i Lk0)) : SpI t M id lb (i + 1) m w g := by
 have hn : exN M (nxL M t.nx (t.lk.take i)) (t.lk.getD i Lk0) = nxL M t.nx (t.lk.take i) := if_neg (fun e => hg e.1)
 have he : (exL M t.nx t.lk).getD i Lk0 = t.lk.getD i Lk0 := by rw [N7 hi]; exact if_neg hg
 refine ⟨by omega, s.idm, s.lbm, s.m6, s.ne, s.ne6, s.wm, s.wi, s.wl, s.w6, s.w1, s.inj, ?_, ?_, fun j hj => ?_, s.k6, s.k1, ?_⟩
 ·rw [K1 hi, hn]; exact s.kid
 ·rw [← mixR_same (fun _ => by unfold rwV; rw [he])]; exact s.klb
 ·rw [s.kw j hj]
  by_cases h1 : j < i
  ·rw [if_pos h1, if_pos (by omega)]
  ·rw [if_neg h1]
   by_cases h2 : j = i
   ·subst h2; rw [if_pos (by omega)]; unfold wsF; rw [he]
   ·rw [if_neg (by omega)]
 ·rw [K1 hi, hn]; have := s.nxb; omega
def frW (l : Lk) (wb n : Nat) : Nat := if l.ws = [] then wb else n + 2
def frB (tm nx : Int) (l : Lk) : Option Blk := if l.ws = [] then none else some ⟨(exF tm nx l).ws.map wtV, 2, 123⟩
theorem SpI.free {t : Tb} {M : Int} {id lb i m : Nat} {w : Nat → Nat} {g : Heap} (s : SpI t M id lb i m w g) (hi : i < t.lk.length) (hg : gone M (t.lk.getD i Lk0)) :
  SpI t M id lb (i + 1) (m + 3) (fun j => if j = i then frW (t.lk.getD i Lk0) (w i) m else w j)
   (app [(lb, some ⟨(mixR (rwV w (exL M t.nx t.lk)) (rwV w t.lk) t.lk.length i).set (0 + i) ((exF M (nxL M t.nx (t.lk.take i)) (t.lk.getD i Lk0)).V (.view (frW (t.lk.getD i Lk0) (w i) m) 0 (exF M (nxL M t.nx (t.lk.take i)) (t.lk.getD i Lk0)).ws.length)), 5, 29⟩),
    (id, some ⟨[[.int .i64 M, .int .i64 (exN M (nxL M t.nx (t.lk.take i)) (t.lk.getD i Lk0)), .view lb 0 t.lk.length, .view 6 0 t.sn.length]], 4, 35⟩), (m + 2, frB M (nxL M t.nx (t.lk.take i)) (t.lk.getD i Lk0))] g) := by
 have hid := s.idm; have hlb := s.lbm; have h6 := s.m6; have hne := s.ne; have hne6 := s.ne6
 have hfw : frW (t.lk.getD i Lk0) (w i) m = w i ∨ frW (t.lk.getD i Lk0) (w i) m = m + 2 := by unfold frW; split <;> simp
 have hwi := s.wm i hi
 have wm' : ∀ j, j < t.lk.length → (if j = i then frW (t.lk.getD i Lk0) (w i) m else w j) < m + 3 := fun j hj => by
  have := s.wm j hj
  split <;> omega
 have ne' : ∀ x, x < m → (∀ j, j < t.lk.length → w j ≠ x) → ∀ j, j < t.lk.length → (if j = i then frW (t.lk.getD i Lk0) (w i) m else w j) ≠ x := fun x hx hw j hj => by
  have := hw j hj; have := hw i hi
  split <;> omega
 have bd := exN_bd (tm := M) (nx := nxL M t.nx (t.lk.take i)) (l := t.lk.getD i Lk0)
 refine ⟨by omega, by omega, by omega, by omega, hne, hne6, wm', ne' id hid s.wi, ne' lb hlb s.wl, ne' 6 h6 s.w6, ne' 1 (by omega) s.w1, fun a b ha hb e => ?_, ?_, ?_, fun j hj => ?_, ?_, ?_, ?_⟩
 ·have := s.inj a b ha hb
  have h1 := s.inj a i ha hi; have h2 := s.inj b i hb hi
  have := s.wm a ha; have := s.wm b hb
  (try dsimp only at e)
  split at e <;> split at e
  ·omega
  ·rcases hfw with h | h
   ·rw [h] at e; omega
   ·omega
  ·rcases hfw with h | h
   ·rw [h] at e; omega
   ·omega
  ·omega
 ·simp (disch := omega) only [↓appC, ↓updN, ↓updS, ↓app0]
  rw [K1 hi]
 ·simp (disch := omega) only [↓appC, ↓updN, ↓updS, ↓app0]
  refine congrArg (fun z => some (Blk.mk z 5 29)) (mixR_set2 hi ?_ (fun j hj => ?_) (fun j hj => ?_))
  ·unfold rwV; rw [N7 hi]; dsimp only; rw [if_pos rfl]
  ·unfold rwV; dsimp only; rw [if_neg (by omega)]
  ·unfold rwV; dsimp only; rw [if_neg (by omega)]
 ·by_cases hji : j = i
  ·subst hji
   rw [if_pos rfl, if_pos (by omega)]
   have hw1 := s.wi j hj; have hw2 := s.wl j hj
   unfold frW frB
   by_cases hz : (t.lk.getD j Lk0).ws = []
   ·rw [if_pos hz, if_pos hz]
    simp (disch := omega) only [↓appC, ↓updN, ↓updS, ↓app0]
    rw [s.kw j hj, if_neg (Nat.lt_irrefl _)]
    unfold wsF
    rw [N7 hj]
    have : (exF M (nxL M t.nx (t.lk.take j)) (t.lk.getD j Lk0)).ws = [] := by unfold exF; rw [if_pos hg, hz]
    rw [this, hz]
   ·rw [if_neg hz, if_neg hz]
    simp (disch := omega) only [↓appC, ↓updN, ↓updS, ↓app0]
    unfold wsF
    rw [N7 hj]
  ·rw [if_neg hji]
   have hw1 := s.wi j hj; have hw2 := s.wl j hj; have hw3 := s.wm j hj
   simp (disch := omega) only [↓appC, ↓updN, ↓updS, ↓app0]
   rw [s.kw j hj]
   by_cases h1 : j < i
   ·rw [if_pos h1, if_pos (by omega)]
   ·rw [if_neg h1, if_neg (by omega)]
 ·simp (disch := omega) only [↓appC, ↓updN, ↓updS, ↓app0]; exact s.k6
 ·simp (disch := omega) only [↓appC, ↓updN, ↓updS, ↓app0]; exact s.k1
 ·rw [K1 hi]; have := s.nxb; omega
theorem o95z (nm : ByteArray) (tk hd ex tm nx : Int) (wb off : Nat) (Ss : V) {id lb j len : Nat} {R : List (List V)} {h : Heap} {n : Nat} (hid : id < n) (hlb : lb < n) (hne : lb ≠ id) (hh : h id = some ⟨[[.int .i64 tm, .int .i64 nx, .view lb 0 len, Ss]], 4, 35⟩) (hjl : j < len) (hj : 0 + j < R.length) (k1 : h lb = some ⟨R, 5, 29⟩) (k2 : R[0 + j]? = some [.str nm, .int .i64 tk, .int .i64 hd, .int .i64 ex, .view wb off 0]) : V.Open En 95 [.ptr id 0 0, .int .i64 j] h n (.tup []) [(lb, some ⟨R.set (0 + j) [.str nm, .int .i64 tk, .int .i64 (-1), .int .i64 0, .view wb off 0], 5, 29⟩), (id, some ⟨[[.int .i64 tm, .int .i64 nx, .view lb 0 len, Ss]], 4, 35⟩), (n + 2, none)] (n + 3) := by
 refine V.Open.fresh rfl (by omega) fun hz => ?_
 refine V.Open.of_wp Try.func95 rfl kb ?_
 refine A2 (A0 (D9 j5 (F8 (v := .ptr _ _ _) j6 (C2 (off := 2) (s := 1) (r := false) j3 kz j3 ?_))))
 (apply C6 (v := .view _ _ _) j2; exact Q0; exact Q9; exact j5)
 refine B5 j5 ?_
 (apply U0 j4; exact Q0; rfl; exact Q4; exact Q4; exact j3)
 refine raP j5 (A3 (A1 (A2 (A2 (A0 (D9 j5 (F8 (v := .ptr _ _ _) j6 (C2 (off := 4) (s := 1) (r := false) j3 kz j3 ?_))))))))
 (apply C6 (v := .view _ _ _) j2; exact Q0; exact Q9; exact j5)
 refine G7 rfl rfl rfl j3 ?_
 refine H5 j6 ?_ (fun h => absurd (rfl) h)
 intro h1_5
 refine A3 (A1 (wT rfl (A2 (A0 (D9 j5 (F8 (v := .ptr _ _ _) j6 (C2 (off := 2) (s := 1) (r := false) j3 kz j3 ?_)))))))
 (apply D6 (u := .int _ _) j3; exact Q0; exact Q9; rfl; rfl; rfl; rfl; exact kb; rfl; exact j2)
 refine A3 (A1 (A2 (A0 (D9 j5 (F8 (v := .ptr _ _ _) j6 (C2 (off := 3) (s := 1) (r := false) j3 kz j3 ?_))))))
 (apply D6 (u := .int _ _) j3; exact Q0; exact Q9; rfl; rfl; rfl; rfl; exact kb; rfl; exact j2)
 refine A3 (A1 (B1 (B0 ?_)))
 exact F2 rfl rfl (K9 (by
  intro jx hjx
  simp only [List.map_cons, List.map_nil, List.mem_cons, List.not_mem_nil, or_false] at hjx
  rcases hjx with rfl | rfl | rfl <;> (simp (disch := omega) only [↓appC, ↓updN, ↓updS, ↓app0]) <;> first | rfl | exact hh | exact hz _ (by omega) | (focus (simp only [List.set_set]; done)) | (simp only [List.set_set]; rfl)) (fun jx hjx hn => by
  simp only [List.map_cons, List.map_nil, List.mem_cons, List.not_mem_nil, or_false, not_or] at hn
  (simp (disch := omega) only [↓appC, ↓updN, ↓updS, ↓app0]))) (by omega)
end Go.Proofs.Ytknnniaoboaghaa
