import Derived.Test.YtknnniaoboaghaaF13
namespace Go.Proofs.Ytknnniaoboaghaa
open Go.V
set_option linter.unusedVariables false
set_option linter.unusedSimpArgs false
set_option maxRecDepth 20000
set_option maxHeartbeats 4000000
theorem o49et (tm nx : Int) (sn : List Sn) (fr : Bool) (hS : sn.length ≤ 1048576)  {h : Heap} {n : Nat} :
  OpenM En 49 [.agg [.int .i64 tm, .int .i64 nx, .nsl, .sl fr true (sn.map Sn.T)]] h n (fun v g m => ∃ Sl Ss W, v = .agg [.int .i64 tm, .int .i64 nx, Sl, Ss] ∧ TabV ⟨tm, nx, [], sn⟩ Sl Ss W g n m ∧ (∀ a, a < n → g a = h a) ∧ n ≤ m) := by
 refine OpenM.of_wp Try.func49 rfl kb ?_
 refine A2 (A0 ?_)
 (refine L7 (u := .agg [.int .i64 tm, .int .i64 nx, .nsl, .sl fr true (sn.map Sn.T)]) j3 rfl j3 ?_)
 refine H3 j6 (A3 (A1 (A2 (C2 [0, 1, 0, 4, 0, 16, 48, 127, 0, 511] rfl (by decide +kernel) ?_))))
 refine D6 (off := 0) (s := 1) (r := false) j3 kz j3 ?_
 (apply E1 (v := .int _ _) j2; exact Q0; exact C7; exact j5)
 refine D6 (off := 1) (s := 1) (r := false) j3 kz j3 ?_
 (apply E1 (v := .int _ _) j2; exact Q0; exact C7; exact j5)
 refine D6 (off := 3) (s := 1) (r := false) j3 kz j3 ?_
 (apply E1 (v := .sl _ _ _) j2; exact Q0; exact C7; exact j5)
 (apply dfr (o90 fr sn hS) rfl j2; (intro x hx; simp only [List.mem_cons, List.not_mem_nil, or_false] at hx; subst hx; rfl); rfl; (exact flatSn sn); exact List.cons_ne_nil _ _; exact j3)
 refine dbd (cs := [.int _ _, .int _ _, _, _]) j5 (dal j6 ?_)
 (apply dst (u := .agg [.int _ _, .int _ _, _, _]) rfl rfl rfl; exact Q0; exact C7; rfl; rfl; rfl; rfl; exact kb; rfl; rfl; rfl)
 refine B1 10 [3, 3, 0, 3, 1, 0, 1, 0, 1, 0] [(1, 6), (3, 6), (1, 8), (3, 8), (5, 8), (6, 8)] j2 (by decide +kernel) ?_ ?_
 ·(simp [ClearL, ids]; try omega)
 refine A1 (A2 (A2 (A0 (C1 (off := 2) (s := 1) (r := false) j3 kz j3 ?_))))
 (apply C5 (v := .nsl) j2; exact Q0; exact C7; exact j5)
 refine H0 rfl rfl rfl j3 (B6 j5 (A3 (A1 (B3 (F0 (E8 (A2 (A0 ?_))))))))
 refine I6 j6 (fun h => absurd h (by show ¬ (0 : Int) < 0; decide)) ?_
 intro h3_0
 refine A3 (A1 (A2 (wF rfl (E5 (E6 (D7 (C8 (A1 (A2 (A0 ?_))))))))))
 (apply F9 (vs := [.int _ _, .int _ _, _, _]) j2; exact Q0; exact C7; rfl; exact kb; rfl; exact j3)
 (apply D4 (u := .agg [.int _ _, .int _ _, _, _]) j3; exact Q0; exact C7; rfl; rfl; rfl; rfl; exact kb; rfl; exact j2)
 refine A3 (A1 (A9 ?_))
 refine E0 (A5 (A7 rfl (by exact Q0) j2 kb rfl) A8) (by (repeat first | exact Ch.refl _ | refine Ch.upd ?_ | refine Ch.app ?_ | assumption)) ⟨.nsl, (.view (n + 3) 0 sn.length), fun _ => .nsl, rfl, ⟨.inl ⟨rfl, rfl⟩, ?_, fun i hi => absurd hi (Nat.not_lt_zero _), nofun, fun a ha => ?_, fun i a hi _ => absurd hi (Nat.not_lt_zero _)⟩, fun a ha => ?_, by omega⟩
 ·exact .inr ⟨n + 3, by rw [List.length_map], by exact Q0⟩
 ·cases ha; exact ⟨by omega, nofun⟩
 ·(simp (disch := (first | omega | assumption)) only [↓appC, ↓updN, ↓updS, ↓app0])
theorem o49ef (tm nx : Int) (sn : List Sn) (fr : Bool) (hS : sn.length ≤ 1048576) (hs : sn = []) {h : Heap} {n : Nat} :
  OpenM En 49 [.agg [.int .i64 tm, .int .i64 nx, .nsl, .nsl]] h n (fun v g m => ∃ Sl Ss W, v = .agg [.int .i64 tm, .int .i64 nx, Sl, Ss] ∧ TabV ⟨tm, nx, [], sn⟩ Sl Ss W g n m ∧ (∀ a, a < n → g a = h a) ∧ n ≤ m) := by
 refine OpenM.of_wp Try.func49 rfl kb ?_
 refine A2 (A0 ?_)
 (refine L7 (u := .agg [.int .i64 tm, .int .i64 nx, .nsl, .nsl]) j3 rfl j3 ?_)
 refine H3 j6 (A3 (A1 (A2 (C2 [0, 1, 0, 4, 0, 16, 48, 127, 0, 511] rfl (by decide +kernel) ?_))))
 refine D6 (off := 0) (s := 1) (r := false) j3 kz j3 ?_
 (apply E1 (v := .int _ _) j2; exact Q0; exact C7; exact j5)
 refine D6 (off := 1) (s := 1) (r := false) j3 kz j3 ?_
 (apply E1 (v := .int _ _) j2; exact Q0; exact C7; exact j5)
 refine D6 (off := 3) (s := 1) (r := false) j3 kz j3 ?_
 (apply E1 (v := .nsl) j2; exact Q0; exact C7; exact j5)
 refine dcl s90z rfl j5 (dbd (cs := [.int _ _, .int _ _, _, _]) j5 (dal j6 ?_))
 (apply dst (u := .agg [.int _ _, .int _ _, _, _]) rfl rfl rfl; exact Q0; exact C7; rfl; rfl; rfl; rfl; exact kb; rfl; rfl; rfl)
 refine B1 10 [3, 3, 0, 0, 1, 0, 1, 0, 1, 0] [(1, 8), (3, 8), (5, 8)] j2 (by decide +kernel) ?_ ?_
 ·(simp [ClearL, ids]; try omega)
 refine A1 (A2 (A2 (A0 (C1 (off := 2) (s := 1) (r := false) j3 kz j3 ?_))))
 (apply C5 (v := .nsl) j2; exact Q0; exact C7; exact j5)
 refine H0 rfl rfl rfl j3 (B6 j5 (A3 (A1 (B3 (F0 (E8 (A2 (A0 ?_))))))))
 refine I6 j6 (fun h => absurd h (by show ¬ (0 : Int) < 0; decide)) ?_
 intro h3_0
 refine A3 (A1 (A2 (wF rfl (E5 (E6 (D7 (C8 (A1 (A2 (A0 ?_))))))))))
 (apply F9 (vs := [.int _ _, .int _ _, _, _]) j2; exact Q0; exact C7; rfl; exact kb; rfl; exact j3)
 (apply D4 (u := .agg [.int _ _, .int _ _, _, _]) j3; exact Q0; exact C7; rfl; rfl; rfl; rfl; exact kb; rfl; exact j2)
 refine A3 (A1 (A9 ?_))
 refine E0 (A5 (A7 rfl (by exact Q0) j2 kb rfl) A8) (by (repeat first | exact Ch.refl _ | refine Ch.upd ?_ | refine Ch.app ?_ | assumption)) ⟨.nsl, .nsl, fun _ => .nsl, rfl, ⟨.inl ⟨rfl, rfl⟩, ?_, fun i hi => absurd hi (Nat.not_lt_zero _), nofun, fun a ha => ?_, fun i a hi _ => absurd hi (Nat.not_lt_zero _)⟩, fun a ha => ?_, by omega⟩
 ·exact .inl ⟨rfl, by rw [show sn = [] from hs]; rfl⟩
 ·cases ha
 ·(simp (disch := (first | omega | assumption)) only [↓appC, ↓updN, ↓updS, ↓app0])
theorem o49N (t : Tb) (B : Nat → Bool) (b1 b2 fr : Bool) (hN : NilOK t B b1 b2) (hL : t.lk.length ≤ 1000) (hW : ∀ i, i < t.lk.length → (t.lk.getD i Lk0).ws.length ≤ 1048576) (hS : t.sn.length ≤ 1048576) {h : Heap} {n : Nat} :
  OpenM En 49 [.agg [.int .i64 t.tm, .int .i64 t.nx, T.toV fr (nlT b1 (lksN B t.lk)), T.toV fr (nlT b2 (t.sn.map Sn.T))]] h n (fun v g m => ∃ Sl Ss W, v = .agg [.int .i64 t.tm, .int .i64 t.nx, Sl, Ss] ∧ TabV t Sl Ss W g n m ∧ (∀ a, a < n → g a = h a) ∧ n ≤ m) := by
 cases b1 with
 | true =>
  cases b2 with
  | true => exact o49t t B fr hN hL hW hS
  | false => exact o49f t B fr hN hL hW hS
 | false =>
  obtain ⟨tm, nx, lk, sn⟩ := t
  obtain rfl : lk = [] := hN.l rfl
  cases b2 with
  | true => exact o49et tm nx sn fr hS
  | false => exact o49ef tm nx sn fr hS (hN.s rfl)
open Go.V
set_option linter.unusedVariables false
set_option linter.unusedSimpArgs false
set_option maxRecDepth 20000
set_option maxHeartbeats 4000000
theorem TR_slW {I : Nat → Prop} {w : World} {nn n2 : Bool} (hnn : n2 = true → nn = true) {es es2 : List (List T)} (hl : es.length = es2.length) (hc : ∀ (i : Nat) (e e2 : List T), es[i]? = some e → es2[i]? = some e2 → e.length = e2.length)
  (hs : ∀ (i j : Nat) (x y : T) (v : Value), get2 es i j = some x → get2 es2 i j = some y → TR I w x v → TR I w y v) {v : Value} (h : TR I w (.sl nn es) v) : TR I w (.sl n2 es2) v := by
 have key : ∀ (i j : Nat) (c : T), get2 es2 i j = some c → ∃ x, get2 es i j = some x := by
  intro i j c h
  unfold get2 at h ⊢
  cases h2 : es2[i]? with
  | none => rw [h2] at h; exact absurd h nofun
  | some e2 =>
   rw [h2] at h
   have hi : i < es2.length := (List.getElem?_eq_some_iff.1 h2).1
   have h1 : es[i]? = some es[i] := List.getElem?_eq_getElem (by omega)
   have hj : j < e2.length := (List.getElem?_eq_some_iff.1 h).1
   have := hc i _ _ h1 h2
   exact ⟨es[i][j], by rw [h1]; exact List.getElem?_eq_getElem (by omega)⟩
 cases h with
 | sl _ _ a len cap sz rd hlen hcap hnil hI hsz hrd hsub =>
  refine .sl n2 es2 a len cap sz rd (by omega) hcap (fun e => ?_) (fun A hA hne => hI A hA (fun e => hne (List.eq_nil_of_length_eq_zero (by rw [← hl, e]; rfl)))) (fun e he => ?_) (fun A i j c hA hg => ?_) (fun i j c hg => ?_)
  ·obtain ⟨q1, q2, q3⟩ := hnil e
   refine ⟨?_, List.eq_nil_of_length_eq_zero (by rw [← hl, q2]; rfl), q3⟩
   cases n2 with
   | false => rfl
   | true => rw [hnn rfl] at q1; cases q1
  ·obtain ⟨i, hi, rfl⟩ := List.getElem_of_mem he
   have h1 : es[i]? = some es[i] := List.getElem?_eq_getElem (by omega)
   rw [← hc i _ _ h1 (List.getElem?_eq_getElem hi)]
   exact hsz _ (List.getElem_mem _)
  ·obtain ⟨x, hx⟩ := key i j c hg; exact hrd A i j x hA hx
  ·obtain ⟨x, hx⟩ := key i j c hg; exact hs i j x c _ hx hg (hsub i j x hx)
theorem TR_nlW {I : Nat → Prop} {w : World} {b : Bool} {es es2 : List (List T)} (hb : b = false → es2 = []) (hl : es.length = es2.length) (hc : ∀ (i : Nat) (e e2 : List T), es[i]? = some e → es2[i]? = some e2 → e.length = e2.length)
  (hs : ∀ (i j : Nat) (x y : T) (v : Value), get2 es i j = some x → get2 es2 i j = some y → TR I w x v → TR I w y v) {v : Value} (h : TR I w (nlT b es) v) : TR I w (.sl false es2) v := by
 cases b with
 | true => exact TR_slW (fun e => by cases e) hl hc hs h
 | false => rw [hb rfl]; exact TW.ok .nil h
theorem same2 {I : Nat → Prop} {w : World} {es : List (List T)} : ∀ (i j : Nat) (x y : T) (v : Value), get2 es i j = some x → get2 es i j = some y → TR I w x v → TR I w y v := fun i j x y v h1 h2 h => by
 rw [h1] at h2; cases h2; exact h
theorem len2 {es : List (List T)} : ∀ (i : Nat) (e e2 : List T), es[i]? = some e → es[i]? = some e2 → e.length = e2.length := fun i e e2 h1 h2 => by rw [h1] at h2; cases h2; rfl
theorem AR_N {I : Nat → Prop} {w : World} {t : Tb} {B : Nat → Bool} {b1 b2 : Bool} (hN : NilOK t B b1 b2) {v : Value} (h : AR I w (.agg (t.N B b1 b2)) v) : AR I w (.agg (t.T false false false)) v := by
 have hlk : ∀ u, TR I w (nlT b1 (lksN B t.lk)) u → TR I w (.sl false (t.lk.map (Lk.T false))) u := fun u hu => by
  have e1 : ∀ i, i < t.lk.length → (lksN B t.lk)[i]? = some ((t.lk.getD i Lk0).N (B i)) := fun i hi => I2 hi
  have e2 : ∀ i, i < t.lk.length → (t.lk.map (Lk.T false))[i]? = some ((t.lk.getD i Lk0).T false) := fun i hi => D8 (Lk.T false) Lk0 hi
  have hil : ∀ i e, (lksN B t.lk)[i]? = some e → i < t.lk.length := fun i e h => by have := (List.getElem?_eq_some_iff.1 h).1; rw [L3] at this; exact this
  refine TR_nlW (fun e => by rw [hN.l e]; rfl) (by rw [L3, List.length_map]) (fun i e e3 h1 h2 => ?_) (fun i j x y v h1 h2 hx => ?_) hu
  ·have hi := hil i e h1
   rw [e1 i hi] at h1; rw [e2 i hi] at h2
   cases h1; cases h2; rfl
  ·unfold get2 at h1 h2
   by_cases hi : i < t.lk.length
   ·rw [e1 i hi] at h1; rw [e2 i hi] at h2
    match j with
    | 0 => cases h1; cases h2; exact hx
    | 1 => cases h1; cases h2; exact hx
    | 2 => cases h1; cases h2; exact hx
    | 3 => cases h1; cases h2; exact hx
    | 4 => cases h1; cases h2; exact TR_nlW (fun e => by rw [hN.w i hi e]; rfl) rfl len2 same2 hx
    | j + 5 => exact absurd h1 nofun
   ·rw [show (lksN B t.lk)[i]? = none from List.getElem?_eq_none (by rw [L3]; omega)] at h1; exact absurd h1 nofun
 cases h with
 | agg _ vs hl hv =>
  refine .agg _ vs hl fun i x u hx hu => ?_
  match i with
  | 0 => exact hv 0 x u hx hu
  | 1 => exact hv 1 x u hx hu
  | 2 =>
   have hx : some (T.sl false (t.lk.map (Lk.T false))) = some x := hx
   cases hx
   exact hlk u (hv 2 _ u rfl hu)
  | 3 =>
   have hx : some (T.sl false (t.sn.map Sn.T)) = some x := hx
   cases hx
   exact TR_nlW (fun e => by rw [hN.s e]; rfl) rfl len2 same2 (hv 3 _ u rfl hu)
  | i + 4 => exact absurd hx nofun
theorem Pure.ofN {f : FuncId} {t : Tb} {B : Nat → Bool} {b1 b2 : Bool} (hN : NilOK t B b1 b2) {az rs : List A} (hp : Pure En f (.agg (t.T false false false) :: az) rs) : Pure En f (.agg (t.N B b1 b2) :: az) rs := by
 unfold V.Pure at hp ⊢
 refine ⟨hp.1, fun I w vs h1 h2 h3 h4 => hp.2 I w vs h1 h2 (by rw [← h3]; rfl) fun i a v ha hv => ?_⟩
 cases i with
 | zero =>
  have ha : some (A.agg (t.T false false false)) = some a := ha
  cases ha
  exact AR_N hN (h4 0 _ v rfl hv)
 | succ i => exact h4 (i + 1) a v ha hv
open Go.V
set_option linter.unusedVariables false
set_option linter.unusedSimpArgs false
set_option maxRecDepth 20000
set_option maxHeartbeats 4000000
theorem o27tt (t : Tb) (B : Nat → Bool) (hN : NilOK t B true true) (now : Int) (r : Rq) {h : Heap} {n : Nat} : OpenM En 27 [.agg [.int .i64 t.tm, .int .i64 t.nx, .sl false true (lksN B t.lk), .sl false true (t.sn.map Sn.T)], .int .i64 now, .agg [.int .i64 r.cl, .int .i64 r.st, .int .i64 r.kd, .int .i64 r.le, .str r.nm]] h n (fun v g m => ∃ Sl Ss W, v = .tup [.agg [.int .i64 (apA t now r).1.tm, .int .i64 (apA t now r).1.nx, Sl, Ss], .agg (apA t now r).2.1.V, .int .i64 (apA t now r).2.2] ∧ TabV (apA t now r).1 Sl Ss W g n m ∧ (∀ a, a < n → g a = h a) ∧ n ≤ m) := by
 refine OpenM.of_wp Try.func27 rfl kb ?_
 refine A2 (A0 ?_)
 (refine L7 (u := .agg [.int .i64 t.tm, .int .i64 t.nx, .sl false true (lksN B t.lk), .sl false true (t.sn.map Sn.T)]) j3 rfl j3 ?_)
 refine L7 (u := .agg [.int _ _, .int _ _, .int _ _, .int _ _, .str _]) j3 rfl j3 (H3 j6 (H3 j6 (D0 j5 (A3 (A1 (A2 (B3 (A2 (A0 ?_)))))))))
 (apply F9 (vs := [.int _ _, .int _ _, _, _]) j2; exact Q0; exact C7; rfl; exact kb; rfl; exact j3)
 refine F3 (Pure.ofN hN (p23 t false false false)) rfl j5 ?_ ?_ <;> intro h1_1
 ·refine D5 (c := true) j5 (C4 j5 ?_)
  (apply F9 (vs := [.int _ _, .int _ _, .int _ _, .int _ _, .str _]) j2; exact Q0; exact C7; rfl; exact kb; rfl; exact j3)
  refine F3 (p26 r) rfl j5 ?_ ?_ <;> intro h1_5
  ·refine D5 (c := true) j5 (C0 (e := false) j6 (C6 j5 (A3 (A1 (wF rfl (A2 (A0 (B6 j5 ?_))))))))
   refine F3 (s59 now) rfl j5 ?_ ?_ <;> intro h3_1
   ·refine D5 (c := true) j5 (C6 j5 (A3 (A1 (wF rfl (A2 (A0 (C1 (off := 1) (s := 1) (r := false) j3 kz j3 ?_)))))))
    (apply C5 (v := .int _ _) j2; exact Q0; exact C7; exact j5)
    refine V4 j6 ?_ ?_ <;> intro h5_2
    ·refine C6 j5 (A3 (A1 (wT rfl (A2 (A0 ?_)))))
     (apply F9 (vs := [.int _ _, .int _ _, _, _]) j2; exact Q0; exact C7; rfl; exact kb; rfl; exact j3)
     refine K9 (o49N t B true true false hN (by have := h1_1.2.2.1; omega) (fun i hi => by have := OKw h1_1 hi; omega) (by have := h1_1.2.2.2.1; omega)) rfl j5 ?_
     rintro _ g1 m1 ⟨Sl1, Ss1, W1, rfl, TV, fr1, le1⟩ hc1 hl1
     have kcl1 := TV.kl.cell
     have kcs1 := TV.ks.cell
     have q1 : g1 (n + 1) = some ⟨[[.int .i64 r.cl, .int .i64 r.st, .int .i64 r.kd, .int .i64 r.le, .str r.nm]], 5, 64⟩ := by rw [fr1 (n + 1) (by omega)]; (simp (disch := (first | omega | assumption)) only [↓appC, ↓updN, ↓updS, ↓app0]); rfl
     have q2 : g1 (n + 1 + 1) = some ⟨[[.int .i64 0, .int .i64 0, .nsl, .nsl]], 4, 35⟩ := by rw [fr1 (n + 1 + 1) (by omega)]; (simp (disch := (first | omega | assumption)) only [↓appC, ↓updN, ↓updS, ↓app0]); rfl
     have q3 : g1 (n + 1 + 1 + 1) = some ⟨[[.int .i64 0, .int .i64 0, .int .i64 0, .int .i64 0]], 4, 60⟩ := by rw [fr1 (n + 1 + 1 + 1) (by omega)]; (simp (disch := (first | omega | assumption)) only [↓appC, ↓updN, ↓updS, ↓app0]); rfl
     have qk : ∀ a, a < n → g1 a = h a := fun a ha => by rw [fr1 a (by omega)]; (simp (disch := (first | omega | assumption)) only [↓appC, ↓updN, ↓updS, ↓app0])
     refine L6 (cs := [.int _ _, .int _ _, .int _ _, .int _ _]) j5 ?_
     (apply D4 (u := .agg [.int _ _, .int _ _, _, _]) j3; exact Q0; exact C7; rfl; rfl; rfl; exact Q6; exact kb; rfl; exact j2)
     (apply D4 (u := .agg [.int _ _, .int _ _, .int _ _, .int _ _]) j3; exact Q0; exact C7; rfl; rfl; rfl; exact Q6; exact kb; rfl; exact j2)
     refine D0 j5 (A3 (A1 (A9 (B4 (B2 (E0 (A5 (A7 rfl (by exact Q0) j2 kb rfl) (A5 (A7 rfl (by exact Q0) j2 kb rfl) (A5 rfl A8))) (by (repeat first | exact Ch.refl _ | exact rc | refine Ch.trans ?_ hc3 | refine Ch.trans ?_ hc1 | refine Ch.upd ?_ | refine Ch.app ?_)) ?_))))))
     rw [X7 ⟨h1_1, h1_5⟩ h3_1 h5_2]
     exact ⟨Sl1, Ss1, W1, rfl, (TV.keep (Nat.le_refl _) (fun a h1 h2 => by (simp (disch := (first | omega | assumption)) only [↓appC, ↓updN, ↓updS, ↓app0]))).low (by omega), fun a ha => (by (simp (disch := (first | omega | assumption)) only [↓appC, ↓updN, ↓updS, ↓app0]); exact qk a ha), by omega⟩
    ·refine C6 j5 (A3 (A1 (wF rfl (B0 (B7 (A1 (A2 (A0 ?_))))))))
     (apply F9 (vs := [.int _ _, .int _ _, _, _]) j2; exact Q0; exact C7; rfl; exact kb; rfl; exact j3)
     refine K9 (o49N t B true true false hN (by have := h1_1.2.2.1; omega) (fun i hi => by have := OKw h1_1 hi; omega) (by have := h1_1.2.2.2.1; omega)) rfl j5 ?_
     rintro _ g1 m1 ⟨Sl1, Ss1, W1, rfl, TV, fr1, le1⟩ hc1 hl1
     have kcl1 := TV.kl.cell
     have kcs1 := TV.ks.cell
     have q1 : g1 (n + 1) = some ⟨[[.int .i64 r.cl, .int .i64 r.st, .int .i64 r.kd, .int .i64 r.le, .str r.nm]], 5, 64⟩ := by rw [fr1 (n + 1) (by omega)]; (simp (disch := (first | omega | assumption)) only [↓appC, ↓updN, ↓updS, ↓app0]); rfl
     have q2 : g1 (n + 1 + 1) = some ⟨[[.int .i64 0, .int .i64 0, .nsl, .nsl]], 4, 35⟩ := by rw [fr1 (n + 1 + 1) (by omega)]; (simp (disch := (first | omega | assumption)) only [↓appC, ↓updN, ↓updS, ↓app0]); rfl
     have q3 : g1 (n + 1 + 1 + 1) = some ⟨[[.int .i64 0, .int .i64 0, .int .i64 0, .int .i64 0]], 4, 60⟩ := by rw [fr1 (n + 1 + 1 + 1) (by omega)]; (simp (disch := (first | omega | assumption)) only [↓appC, ↓updN, ↓updS, ↓app0]); rfl
     have qk : ∀ a, a < n → g1 a = h a := fun a ha => by rw [fr1 a (by omega)]; (simp (disch := (first | omega | assumption)) only [↓appC, ↓updN, ↓updS, ↓app0])
     refine H3 j6 ?_
     (apply D4 (u := .agg [.int _ _, .int _ _, _, _]) j3; exact Q0; exact C7; rfl; rfl; rfl; exact Q6; exact kb; rfl; exact j2)
     refine A3 (A1 (A2 ?_))
     refine Y1 fun g2 hg2 => ?_
     have bq := Bq.of h1_1 h1_5 h3_1 (by omega)
     have T1 : TabM t m1 Sl1 Ss1 W1 g2 (m1 + 1) := TV.toM ⟨by omega, .inl (Nat.le_refl _)⟩ (by omega) (by rw [hg2]; (simp (disch := (first | omega | assumption)) only [↓appC, ↓updN, ↓updS, ↓app0]); rfl) (fun a h1 h2 => by rw [hg2]; (simp (disch := (first | omega | assumption)) only [↓appC, ↓updN, ↓updS, ↓app0]))
     have r1 : g2 (n + 1) = some ⟨[[.int .i64 r.cl, .int .i64 r.st, .int .i64 r.kd, .int .i64 r.le, .str r.nm]], 5, 64⟩ := by rw [hg2]; (simp (disch := (first | omega | assumption)) only [↓appC, ↓updN, ↓updS, ↓app0]); exact q1
     have r2 : g2 (n + 1 + 1) = some ⟨[[.int .i64 0, .int .i64 0, .nsl, .nsl]], 4, 35⟩ := by rw [hg2]; (simp (disch := (first | omega | assumption)) only [↓appC, ↓updN, ↓updS, ↓app0]); exact q2
     have r3 : g2 (n + 1 + 1 + 1) = some ⟨[[.int .i64 0, .int .i64 0, .int .i64 0, .int .i64 0]], 4, 60⟩ := by rw [hg2]; (simp (disch := (first | omega | assumption)) only [↓appC, ↓updN, ↓updS, ↓app0]); exact q3
     have rk : ∀ a, a < n → g2 a = h a := fun a ha => by rw [hg2]; (simp (disch := (first | omega | assumption)) only [↓appC, ↓updN, ↓updS, ↓app0]); exact qk a ha
     have rc : Ch h g2 := by rw [hg2]; (repeat first | exact Ch.refl _ | refine Ch.trans ?_ hc1 | refine Ch.upd ?_ | refine Ch.app ?_)
     refine A0 (B6 j5 ?_)
     (apply F9 (vs := [.int _ _, .int _ _, .int _ _, .int _ _, .str _]) j2; exact Q0; exact C7; rfl; exact kb; rfl; exact j3)
     refine K9 (o71 t now r bq T1) rfl j5 ?_
     rintro _ g3 m3 ⟨rfl, S3⟩ hc3 hl3
     obtain ⟨Sl2, Ss2, W2, T2, x1, x2, x3⟩ := S3
     have hO1 : ∀ a, OwnT m1 Sl1 Ss1 W1 t.lk.length a → n + 1 + 1 + 1 + 1 ≤ a := fun a o => by have := TV.ownM a o; omega
     have hO : ∀ a, OwnT m1 Sl2 Ss2 W2 (rqT t now r).1.lk.length a → n + 1 + 1 + 1 + 1 ≤ a := fun a o => (x1 a o).elim (fun e => hO1 a e) (fun e => by omega)
     have kcl2 := T2.kl.cell
     have kcs2 := T2.ks.cell
     have kid2 : g3 m1 = some ⟨[[.int .i64 (rqT t now r).1.tm, .int .i64 (rqT t now r).1.nx, Sl2, Ss2]], 4, 35⟩ := T2.kid
     have p2 : g3 (n + 1 + 1) = some ⟨[[.int .i64 0, .int .i64 0, .nsl, .nsl]], 4, 35⟩ := by rw [x2 (n + 1 + 1) (by omega) (fun o => by have := hO1 _ o; omega)]; exact r2
     have p3 : g3 (n + 1 + 1 + 1) = some ⟨[[.int .i64 0, .int .i64 0, .int .i64 0, .int .i64 0]], 4, 60⟩ := by rw [x2 (n + 1 + 1 + 1) (by omega) (fun o => by have := hO1 _ o; omega)]; exact r3
     have pk : ∀ a, a < n → g3 a = h a := fun a ha => by rw [x2 a (by omega) (fun o => by have := hO1 _ o; omega)]; exact rk a ha
     refine H3 j6 ?_
     (apply D4 (u := .agg [.int _ _, .int _ _, .int _ _, .int _ _]) j3; exact Q0; exact C7; rfl; rfl; rfl; exact Q6; exact kb; rfl; exact j2)
     refine A3 (A1 (A2 (C2 [0, 0, 1, 7, 15] rfl (by decide +kernel) ?_)))
     (apply L8 (vs := [.int _ _, .int _ _, _, _]) j2; exact Q0; exact C7; rfl; exact kb; exact j4)
     (apply L8 (vs := [.int _ _, .int _ _, .int _ _, .int _ _]) j2; exact Q0; exact C7; rfl; exact kb; exact j4)
     (apply dst (u := .agg [.int _ _, .int _ _, _, _]) rfl rfl rfl; exact Q0; exact C7; rfl; rfl; rfl; exact Q6; exact kb; rfl; rfl; rfl)
     (apply dst (u := .agg [.int _ _, .int _ _, .int _ _, .int _ _]) rfl rfl rfl; exact Q0; exact C7; rfl; rfl; rfl; exact Q6; exact kb; rfl; rfl; rfl)
     refine daI j5 (B1 5 [0, 3, 3, 1, 1] [(1, 2)] j2 (by decide +kernel) ?_ ?_)
     ·(simp [ClearL, ids]; try omega)
     refine A1 (A9 (E0 (A5 (A7 rfl (by exact Q0) j2 kb rfl) (A5 (A7 rfl (by exact Q0) j2 kb rfl) (A5 rfl A8))) (by (repeat first | exact Ch.refl _ | exact rc | refine Ch.trans ?_ hc3 | refine Ch.trans ?_ hc1 | refine Ch.upd ?_ | refine Ch.app ?_)) ?_))
     rw [BH ⟨h1_1, h1_5⟩ h3_1 h5_2]
     exact ⟨Sl2, Ss2, W2, rfl, ((T2.toV (n0 := n + 1 + 1 + 1 + 1) hO).keep (m := m3 + 1) (by omega) (fun a h1 h2 => by (simp (disch := (first | omega | assumption)) only [↓appC, ↓updN, ↓updS, ↓app0]))).low (by omega), fun a ha => (by (simp (disch := (first | omega | assumption)) only [↓appC, ↓updN, ↓updS, ↓app0]); exact pk a ha), by omega⟩
   ·refine D5 (c := false) j5 (C6 j5 (A3 (A1 (wT rfl (A2 (A0 (L6 (cs := [.int _ _, .int _ _, _, _]) j5 (L6 (cs := [.int _ _, .int _ _, .int _ _, .int _ _]) j5 ?_))))))))
    (apply D4 (u := .agg [.int _ _, .int _ _, _, _]) j3; exact Q0; exact C7; rfl; rfl; rfl; exact Q6; exact kb; rfl; exact j2)
    (apply D4 (u := .agg [.int _ _, .int _ _, .int _ _, .int _ _]) j3; exact Q0; exact C7; rfl; rfl; rfl; exact Q6; exact kb; rfl; exact j2)
    refine D0 j5 (A3 (A1 (A9 (B4 (B2 (E0 (A5 (A7 rfl (by exact Q0) j2 kb rfl) (A5 (A7 rfl (by exact Q0) j2 kb rfl) (A5 rfl A8))) (by (repeat first | exact Ch.refl _ | exact rc | refine Ch.trans ?_ hc3 | refine Ch.trans ?_ hc1 | refine Ch.upd ?_ | refine Ch.app ?_)) ?_))))))
    rw [AI ⟨h1_1, h1_5⟩ h3_1]
    exact ⟨.nsl, .nsl, _, rfl, TabV.zero _ _ _, fun a ha => (by (simp (disch := (first | omega | assumption)) only [↓appC, ↓updN, ↓updS, ↓app0])), by omega⟩
  ·refine D5 (c := false) j5 (C0 (e := true) j6 (C6 j5 (A3 (A1 (wT rfl (A2 (A0 (L6 (cs := [.int _ _, .int _ _, _, _]) j5 (L6 (cs := [.int _ _, .int _ _, .int _ _, .int _ _]) j5 ?_)))))))))
   (apply D4 (u := .agg [.int _ _, .int _ _, _, _]) j3; exact Q0; exact C7; rfl; rfl; rfl; exact Q6; exact kb; rfl; exact j2)
   (apply D4 (u := .agg [.int _ _, .int _ _, .int _ _, .int _ _]) j3; exact Q0; exact C7; rfl; rfl; rfl; exact Q6; exact kb; rfl; exact j2)
   refine D0 j5 (A3 (A1 (A9 (B4 (B2 ?_)))))
   have hb : ¬ (t.OK ∧ r.OK) := (fun e => by have e1 := e.1; have e2 := e.2; first | exact h1_1 e1 | exact h1_5 e2)
   refine E0 (A5 (A7 rfl (by exact Q0) j2 kb rfl) (A5 (A7 rfl (by exact Q0) j2 kb rfl) (A5 rfl A8))) (by (repeat first | exact Ch.refl _ | exact rc | refine Ch.trans ?_ hc3 | refine Ch.trans ?_ hc1 | refine Ch.upd ?_ | refine Ch.app ?_)) ?_
   rw [N5 hb]
   exact ⟨.nsl, .nsl, _, rfl, TabV.zero _ _ _, fun a ha => (by (simp (disch := (first | omega | assumption)) only [↓appC, ↓updN, ↓updS, ↓app0])), by omega⟩
 ·refine D5 (c := false) j5 (C4 j5 (A4 j3 (A4 j3 (A4 j3 (C0 (e := true) j6 (C6 j5 (A3 (A1 (wT rfl (A2 (A0 (L6 (cs := [.int _ _, .int _ _, _, _]) j5 ?_))))))))))))
  refine L6 (cs := [.int _ _, .int _ _, .int _ _, .int _ _]) j5 ?_
  (apply D4 (u := .agg [.int _ _, .int _ _, _, _]) j3; exact Q0; exact C7; rfl; rfl; rfl; exact Q6; exact kb; rfl; exact j2)
  (apply D4 (u := .agg [.int _ _, .int _ _, .int _ _, .int _ _]) j3; exact Q0; exact C7; rfl; rfl; rfl; exact Q6; exact kb; rfl; exact j2)
  refine D0 j5 (A3 (A1 (A9 (B4 (B2 ?_)))))
  have hb : ¬ (t.OK ∧ r.OK) := (fun e => by have e1 := e.1; have e2 := e.2; first | exact h1_1 e1 | exact h1_5 e2)
  refine E0 (A5 (A7 rfl (by exact Q0) j2 kb rfl) (A5 (A7 rfl (by exact Q0) j2 kb rfl) (A5 rfl A8))) (by (repeat first | exact Ch.refl _ | exact rc | refine Ch.trans ?_ hc3 | refine Ch.trans ?_ hc1 | refine Ch.upd ?_ | refine Ch.app ?_)) ?_
  rw [N5 hb]
  exact ⟨.nsl, .nsl, _, rfl, TabV.zero _ _ _, fun a ha => (by (simp (disch := (first | omega | assumption)) only [↓appC, ↓updN, ↓updS, ↓app0])), by omega⟩
theorem o27tf (t : Tb) (B : Nat → Bool) (hN : NilOK t B true false) (now : Int) (r : Rq) {h : Heap} {n : Nat} : OpenM En 27 [.agg [.int .i64 t.tm, .int .i64 t.nx, .sl false true (lksN B t.lk), .nsl], .int .i64 now, .agg [.int .i64 r.cl, .int .i64 r.st, .int .i64 r.kd, .int .i64 r.le, .str r.nm]] h n (fun v g m => ∃ Sl Ss W, v = .tup [.agg [.int .i64 (apA t now r).1.tm, .int .i64 (apA t now r).1.nx, Sl, Ss], .agg (apA t now r).2.1.V, .int .i64 (apA t now r).2.2] ∧ TabV (apA t now r).1 Sl Ss W g n m ∧ (∀ a, a < n → g a = h a) ∧ n ≤ m) := by
 refine OpenM.of_wp Try.func27 rfl kb ?_
 refine A2 (A0 ?_)
 (refine L7 (u := .agg [.int .i64 t.tm, .int .i64 t.nx, .sl false true (lksN B t.lk), .nsl]) j3 rfl j3 ?_)
 refine L7 (u := .agg [.int _ _, .int _ _, .int _ _, .int _ _, .str _]) j3 rfl j3 (H3 j6 (H3 j6 (D0 j5 (A3 (A1 (A2 (B3 (A2 (A0 ?_)))))))))
 (apply F9 (vs := [.int _ _, .int _ _, _, _]) j2; exact Q0; exact C7; rfl; exact kb; rfl; exact j3)
 refine F3 (Pure.ofN hN (p23 t false false false)) rfl j5 ?_ ?_ <;> intro h1_1
 ·refine D5 (c := true) j5 (C4 j5 ?_)
  (apply F9 (vs := [.int _ _, .int _ _, .int _ _, .int _ _, .str _]) j2; exact Q0; exact C7; rfl; exact kb; rfl; exact j3)
  refine F3 (p26 r) rfl j5 ?_ ?_ <;> intro h1_5
  ·refine D5 (c := true) j5 (C0 (e := false) j6 (C6 j5 (A3 (A1 (wF rfl (A2 (A0 (B6 j5 ?_))))))))
   refine F3 (s59 now) rfl j5 ?_ ?_ <;> intro h3_1
   ·refine D5 (c := true) j5 (C6 j5 (A3 (A1 (wF rfl (A2 (A0 (C1 (off := 1) (s := 1) (r := false) j3 kz j3 ?_)))))))
    (apply C5 (v := .int _ _) j2; exact Q0; exact C7; exact j5)
    refine V4 j6 ?_ ?_ <;> intro h5_2
    ·refine C6 j5 (A3 (A1 (wT rfl (A2 (A0 ?_)))))
     (apply F9 (vs := [.int _ _, .int _ _, _, _]) j2; exact Q0; exact C7; rfl; exact kb; rfl; exact j3)
     refine K9 (o49N t B true false false hN (by have := h1_1.2.2.1; omega) (fun i hi => by have := OKw h1_1 hi; omega) (by have := h1_1.2.2.2.1; omega)) rfl j5 ?_
     rintro _ g1 m1 ⟨Sl1, Ss1, W1, rfl, TV, fr1, le1⟩ hc1 hl1
     have kcl1 := TV.kl.cell
     have kcs1 := TV.ks.cell
     have q1 : g1 (n + 1) = some ⟨[[.int .i64 r.cl, .int .i64 r.st, .int .i64 r.kd, .int .i64 r.le, .str r.nm]], 5, 64⟩ := by rw [fr1 (n + 1) (by omega)]; (simp (disch := (first | omega | assumption)) only [↓appC, ↓updN, ↓updS, ↓app0]); rfl
     have q2 : g1 (n + 1 + 1) = some ⟨[[.int .i64 0, .int .i64 0, .nsl, .nsl]], 4, 35⟩ := by rw [fr1 (n + 1 + 1) (by omega)]; (simp (disch := (first | omega | assumption)) only [↓appC, ↓updN, ↓updS, ↓app0]); rfl
     have q3 : g1 (n + 1 + 1 + 1) = some ⟨[[.int .i64 0, .int .i64 0, .int .i64 0, .int .i64 0]], 4, 60⟩ := by rw [fr1 (n + 1 + 1 + 1) (by omega)]; (simp (disch := (first | omega | assumption)) only [↓appC, ↓updN, ↓updS, ↓app0]); rfl
     have qk : ∀ a, a < n → g1 a = h a := fun a ha => by rw [fr1 a (by omega)]; (simp (disch := (first | omega | assumption)) only [↓appC, ↓updN, ↓updS, ↓app0])
     refine L6 (cs := [.int _ _, .int _ _, .int _ _, .int _ _]) j5 ?_
     (apply D4 (u := .agg [.int _ _, .int _ _, _, _]) j3; exact Q0; exact C7; rfl; rfl; rfl; exact Q6; exact kb; rfl; exact j2)
     (apply D4 (u := .agg [.int _ _, .int _ _, .int _ _, .int _ _]) j3; exact Q0; exact C7; rfl; rfl; rfl; exact Q6; exact kb; rfl; exact j2)
     refine D0 j5 (A3 (A1 (A9 (B4 (B2 (E0 (A5 (A7 rfl (by exact Q0) j2 kb rfl) (A5 (A7 rfl (by exact Q0) j2 kb rfl) (A5 rfl A8))) (by (repeat first | exact Ch.refl _ | exact rc | refine Ch.trans ?_ hc3 | refine Ch.trans ?_ hc1 | refine Ch.upd ?_ | refine Ch.app ?_)) ?_))))))
     rw [X7 ⟨h1_1, h1_5⟩ h3_1 h5_2]
     exact ⟨Sl1, Ss1, W1, rfl, (TV.keep (Nat.le_refl _) (fun a h1 h2 => by (simp (disch := (first | omega | assumption)) only [↓appC, ↓updN, ↓updS, ↓app0]))).low (by omega), fun a ha => (by (simp (disch := (first | omega | assumption)) only [↓appC, ↓updN, ↓updS, ↓app0]); exact qk a ha), by omega⟩
    ·refine C6 j5 (A3 (A1 (wF rfl (B0 (B7 (A1 (A2 (A0 ?_))))))))
     (apply F9 (vs := [.int _ _, .int _ _, _, _]) j2; exact Q0; exact C7; rfl; exact kb; rfl; exact j3)
     refine K9 (o49N t B true false false hN (by have := h1_1.2.2.1; omega) (fun i hi => by have := OKw h1_1 hi; omega) (by have := h1_1.2.2.2.1; omega)) rfl j5 ?_
     rintro _ g1 m1 ⟨Sl1, Ss1, W1, rfl, TV, fr1, le1⟩ hc1 hl1
     have kcl1 := TV.kl.cell
     have kcs1 := TV.ks.cell
     have q1 : g1 (n + 1) = some ⟨[[.int .i64 r.cl, .int .i64 r.st, .int .i64 r.kd, .int .i64 r.le, .str r.nm]], 5, 64⟩ := by rw [fr1 (n + 1) (by omega)]; (simp (disch := (first | omega | assumption)) only [↓appC, ↓updN, ↓updS, ↓app0]); rfl
     have q2 : g1 (n + 1 + 1) = some ⟨[[.int .i64 0, .int .i64 0, .nsl, .nsl]], 4, 35⟩ := by rw [fr1 (n + 1 + 1) (by omega)]; (simp (disch := (first | omega | assumption)) only [↓appC, ↓updN, ↓updS, ↓app0]); rfl
     have q3 : g1 (n + 1 + 1 + 1) = some ⟨[[.int .i64 0, .int .i64 0, .int .i64 0, .int .i64 0]], 4, 60⟩ := by rw [fr1 (n + 1 + 1 + 1) (by omega)]; (simp (disch := (first | omega | assumption)) only [↓appC, ↓updN, ↓updS, ↓app0]); rfl
     have qk : ∀ a, a < n → g1 a = h a := fun a ha => by rw [fr1 a (by omega)]; (simp (disch := (first | omega | assumption)) only [↓appC, ↓updN, ↓updS, ↓app0])
     refine H3 j6 ?_
     (apply D4 (u := .agg [.int _ _, .int _ _, _, _]) j3; exact Q0; exact C7; rfl; rfl; rfl; exact Q6; exact kb; rfl; exact j2)
     refine A3 (A1 (A2 ?_))
     refine Y1 fun g2 hg2 => ?_
     have bq := Bq.of h1_1 h1_5 h3_1 (by omega)
     have T1 : TabM t m1 Sl1 Ss1 W1 g2 (m1 + 1) := TV.toM ⟨by omega, .inl (Nat.le_refl _)⟩ (by omega) (by rw [hg2]; (simp (disch := (first | omega | assumption)) only [↓appC, ↓updN, ↓updS, ↓app0]); rfl) (fun a h1 h2 => by rw [hg2]; (simp (disch := (first | omega | assumption)) only [↓appC, ↓updN, ↓updS, ↓app0]))
     have r1 : g2 (n + 1) = some ⟨[[.int .i64 r.cl, .int .i64 r.st, .int .i64 r.kd, .int .i64 r.le, .str r.nm]], 5, 64⟩ := by rw [hg2]; (simp (disch := (first | omega | assumption)) only [↓appC, ↓updN, ↓updS, ↓app0]); exact q1
     have r2 : g2 (n + 1 + 1) = some ⟨[[.int .i64 0, .int .i64 0, .nsl, .nsl]], 4, 35⟩ := by rw [hg2]; (simp (disch := (first | omega | assumption)) only [↓appC, ↓updN, ↓updS, ↓app0]); exact q2
     have r3 : g2 (n + 1 + 1 + 1) = some ⟨[[.int .i64 0, .int .i64 0, .int .i64 0, .int .i64 0]], 4, 60⟩ := by rw [hg2]; (simp (disch := (first | omega | assumption)) only [↓appC, ↓updN, ↓updS, ↓app0]); exact q3
     have rk : ∀ a, a < n → g2 a = h a := fun a ha => by rw [hg2]; (simp (disch := (first | omega | assumption)) only [↓appC, ↓updN, ↓updS, ↓app0]); exact qk a ha
     have rc : Ch h g2 := by rw [hg2]; (repeat first | exact Ch.refl _ | refine Ch.trans ?_ hc1 | refine Ch.upd ?_ | refine Ch.app ?_)
     refine A0 (B6 j5 ?_)
     (apply F9 (vs := [.int _ _, .int _ _, .int _ _, .int _ _, .str _]) j2; exact Q0; exact C7; rfl; exact kb; rfl; exact j3)
     refine K9 (o71 t now r bq T1) rfl j5 ?_
     rintro _ g3 m3 ⟨rfl, S3⟩ hc3 hl3
     obtain ⟨Sl2, Ss2, W2, T2, x1, x2, x3⟩ := S3
     have hO1 : ∀ a, OwnT m1 Sl1 Ss1 W1 t.lk.length a → n + 1 + 1 + 1 + 1 ≤ a := fun a o => by have := TV.ownM a o; omega
     have hO : ∀ a, OwnT m1 Sl2 Ss2 W2 (rqT t now r).1.lk.length a → n + 1 + 1 + 1 + 1 ≤ a := fun a o => (x1 a o).elim (fun e => hO1 a e) (fun e => by omega)
     have kcl2 := T2.kl.cell
     have kcs2 := T2.ks.cell
     have kid2 : g3 m1 = some ⟨[[.int .i64 (rqT t now r).1.tm, .int .i64 (rqT t now r).1.nx, Sl2, Ss2]], 4, 35⟩ := T2.kid
     have p2 : g3 (n + 1 + 1) = some ⟨[[.int .i64 0, .int .i64 0, .nsl, .nsl]], 4, 35⟩ := by rw [x2 (n + 1 + 1) (by omega) (fun o => by have := hO1 _ o; omega)]; exact r2
     have p3 : g3 (n + 1 + 1 + 1) = some ⟨[[.int .i64 0, .int .i64 0, .int .i64 0, .int .i64 0]], 4, 60⟩ := by rw [x2 (n + 1 + 1 + 1) (by omega) (fun o => by have := hO1 _ o; omega)]; exact r3
     have pk : ∀ a, a < n → g3 a = h a := fun a ha => by rw [x2 a (by omega) (fun o => by have := hO1 _ o; omega)]; exact rk a ha
     refine H3 j6 ?_
     (apply D4 (u := .agg [.int _ _, .int _ _, .int _ _, .int _ _]) j3; exact Q0; exact C7; rfl; rfl; rfl; exact Q6; exact kb; rfl; exact j2)
     refine A3 (A1 (A2 (C2 [0, 0, 1, 7, 15] rfl (by decide +kernel) ?_)))
     (apply L8 (vs := [.int _ _, .int _ _, _, _]) j2; exact Q0; exact C7; rfl; exact kb; exact j4)
     (apply L8 (vs := [.int _ _, .int _ _, .int _ _, .int _ _]) j2; exact Q0; exact C7; rfl; exact kb; exact j4)
     (apply dst (u := .agg [.int _ _, .int _ _, _, _]) rfl rfl rfl; exact Q0; exact C7; rfl; rfl; rfl; exact Q6; exact kb; rfl; rfl; rfl)
     (apply dst (u := .agg [.int _ _, .int _ _, .int _ _, .int _ _]) rfl rfl rfl; exact Q0; exact C7; rfl; rfl; rfl; exact Q6; exact kb; rfl; rfl; rfl)
     refine daI j5 (B1 5 [0, 3, 3, 1, 1] [(1, 2)] j2 (by decide +kernel) ?_ ?_)
     ·(simp [ClearL, ids]; try omega)
     refine A1 (A9 (E0 (A5 (A7 rfl (by exact Q0) j2 kb rfl) (A5 (A7 rfl (by exact Q0) j2 kb rfl) (A5 rfl A8))) (by (repeat first | exact Ch.refl _ | exact rc | refine Ch.trans ?_ hc3 | refine Ch.trans ?_ hc1 | refine Ch.upd ?_ | refine Ch.app ?_)) ?_))
     rw [BH ⟨h1_1, h1_5⟩ h3_1 h5_2]
     exact ⟨Sl2, Ss2, W2, rfl, ((T2.toV (n0 := n + 1 + 1 + 1 + 1) hO).keep (m := m3 + 1) (by omega) (fun a h1 h2 => by (simp (disch := (first | omega | assumption)) only [↓appC, ↓updN, ↓updS, ↓app0]))).low (by omega), fun a ha => (by (simp (disch := (first | omega | assumption)) only [↓appC, ↓updN, ↓updS, ↓app0]); exact pk a ha), by omega⟩
   ·refine D5 (c := false) j5 (C6 j5 (A3 (A1 (wT rfl (A2 (A0 (L6 (cs := [.int _ _, .int _ _, _, _]) j5 (L6 (cs := [.int _ _, .int _ _, .int _ _, .int _ _]) j5 ?_))))))))
    (apply D4 (u := .agg [.int _ _, .int _ _, _, _]) j3; exact Q0; exact C7; rfl; rfl; rfl; exact Q6; exact kb; rfl; exact j2)
    (apply D4 (u := .agg [.int _ _, .int _ _, .int _ _, .int _ _]) j3; exact Q0; exact C7; rfl; rfl; rfl; exact Q6; exact kb; rfl; exact j2)
    refine D0 j5 (A3 (A1 (A9 (B4 (B2 (E0 (A5 (A7 rfl (by exact Q0) j2 kb rfl) (A5 (A7 rfl (by exact Q0) j2 kb rfl) (A5 rfl A8))) (by (repeat first | exact Ch.refl _ | exact rc | refine Ch.trans ?_ hc3 | refine Ch.trans ?_ hc1 | refine Ch.upd ?_ | refine Ch.app ?_)) ?_))))))
    rw [AI ⟨h1_1, h1_5⟩ h3_1]
    exact ⟨.nsl, .nsl, _, rfl, TabV.zero _ _ _, fun a ha => (by (simp (disch := (first | omega | assumption)) only [↓appC, ↓updN, ↓updS, ↓app0])), by omega⟩
  ·refine D5 (c := false) j5 (C0 (e := true) j6 (C6 j5 (A3 (A1 (wT rfl (A2 (A0 (L6 (cs := [.int _ _, .int _ _, _, _]) j5 (L6 (cs := [.int _ _, .int _ _, .int _ _, .int _ _]) j5 ?_)))))))))
   (apply D4 (u := .agg [.int _ _, .int _ _, _, _]) j3; exact Q0; exact C7; rfl; rfl; rfl; exact Q6; exact kb; rfl; exact j2)
   (apply D4 (u := .agg [.int _ _, .int _ _, .int _ _, .int _ _]) j3; exact Q0; exact C7; rfl; rfl; rfl; exact Q6; exact kb; rfl; exact j2)
   refine D0 j5 (A3 (A1 (A9 (B4 (B2 ?_)))))
   have hb : ¬ (t.OK ∧ r.OK) := (fun e => by have e1 := e.1; have e2 := e.2; first | exact h1_1 e1 | exact h1_5 e2)
   refine E0 (A5 (A7 rfl (by exact Q0) j2 kb rfl) (A5 (A7 rfl (by exact Q0) j2 kb rfl) (A5 rfl A8))) (by (repeat first | exact Ch.refl _ | exact rc | refine Ch.trans ?_ hc3 | refine Ch.trans ?_ hc1 | refine Ch.upd ?_ | refine Ch.app ?_)) ?_
   rw [N5 hb]
   exact ⟨.nsl, .nsl, _, rfl, TabV.zero _ _ _, fun a ha => (by (simp (disch := (first | omega | assumption)) only [↓appC, ↓updN, ↓updS, ↓app0])), by omega⟩
 ·refine D5 (c := false) j5 (C4 j5 (A4 j3 (A4 j3 (A4 j3 (C0 (e := true) j6 (C6 j5 (A3 (A1 (wT rfl (A2 (A0 (L6 (cs := [.int _ _, .int _ _, _, _]) j5 ?_))))))))))))
  refine L6 (cs := [.int _ _, .int _ _, .int _ _, .int _ _]) j5 ?_
  (apply D4 (u := .agg [.int _ _, .int _ _, _, _]) j3; exact Q0; exact C7; rfl; rfl; rfl; exact Q6; exact kb; rfl; exact j2)
  (apply D4 (u := .agg [.int _ _, .int _ _, .int _ _, .int _ _]) j3; exact Q0; exact C7; rfl; rfl; rfl; exact Q6; exact kb; rfl; exact j2)
  refine D0 j5 (A3 (A1 (A9 (B4 (B2 ?_)))))
  have hb : ¬ (t.OK ∧ r.OK) := (fun e => by have e1 := e.1; have e2 := e.2; first | exact h1_1 e1 | exact h1_5 e2)
  refine E0 (A5 (A7 rfl (by exact Q0) j2 kb rfl) (A5 (A7 rfl (by exact Q0) j2 kb rfl) (A5 rfl A8))) (by (repeat first | exact Ch.refl _ | exact rc | refine Ch.trans ?_ hc3 | refine Ch.trans ?_ hc1 | refine Ch.upd ?_ | refine Ch.app ?_)) ?_
  rw [N5 hb]
  exact ⟨.nsl, .nsl, _, rfl, TabV.zero _ _ _, fun a ha => (by (simp (disch := (first | omega | assumption)) only [↓appC, ↓updN, ↓updS, ↓app0])), by omega⟩
theorem o27ft (t : Tb) (B : Nat → Bool) (hN : NilOK t B false true) (now : Int) (r : Rq) {h : Heap} {n : Nat} : OpenM En 27 [.agg [.int .i64 t.tm, .int .i64 t.nx, .nsl, .sl false true (t.sn.map Sn.T)], .int .i64 now, .agg [.int .i64 r.cl, .int .i64 r.st, .int .i64 r.kd, .int .i64 r.le, .str r.nm]] h n (fun v g m => ∃ Sl Ss W, v = .tup [.agg [.int .i64 (apA t now r).1.tm, .int .i64 (apA t now r).1.nx, Sl, Ss], .agg (apA t now r).2.1.V, .int .i64 (apA t now r).2.2] ∧ TabV (apA t now r).1 Sl Ss W g n m ∧ (∀ a, a < n → g a = h a) ∧ n ≤ m) := by
 refine OpenM.of_wp Try.func27 rfl kb ?_
 refine A2 (A0 ?_)
 (refine L7 (u := .agg [.int .i64 t.tm, .int .i64 t.nx, .nsl, .sl false true (t.sn.map Sn.T)]) j3 rfl j3 ?_)
 refine L7 (u := .agg [.int _ _, .int _ _, .int _ _, .int _ _, .str _]) j3 rfl j3 (H3 j6 (H3 j6 (D0 j5 (A3 (A1 (A2 (B3 (A2 (A0 ?_)))))))))
 (apply F9 (vs := [.int _ _, .int _ _, _, _]) j2; exact Q0; exact C7; rfl; exact kb; rfl; exact j3)
 refine F3 (Pure.ofN hN (p23 t false false false)) rfl j5 ?_ ?_ <;> intro h1_1
 ·refine D5 (c := true) j5 (C4 j5 ?_)
  (apply F9 (vs := [.int _ _, .int _ _, .int _ _, .int _ _, .str _]) j2; exact Q0; exact C7; rfl; exact kb; rfl; exact j3)
  refine F3 (p26 r) rfl j5 ?_ ?_ <;> intro h1_5
  ·refine D5 (c := true) j5 (C0 (e := false) j6 (C6 j5 (A3 (A1 (wF rfl (A2 (A0 (B6 j5 ?_))))))))
   refine F3 (s59 now) rfl j5 ?_ ?_ <;> intro h3_1
   ·refine D5 (c := true) j5 (C6 j5 (A3 (A1 (wF rfl (A2 (A0 (C1 (off := 1) (s := 1) (r := false) j3 kz j3 ?_)))))))
    (apply C5 (v := .int _ _) j2; exact Q0; exact C7; exact j5)
    refine V4 j6 ?_ ?_ <;> intro h5_2
    ·refine C6 j5 (A3 (A1 (wT rfl (A2 (A0 ?_)))))
     (apply F9 (vs := [.int _ _, .int _ _, _, _]) j2; exact Q0; exact C7; rfl; exact kb; rfl; exact j3)
     refine K9 (o49N t B false true false hN (by have := h1_1.2.2.1; omega) (fun i hi => by have := OKw h1_1 hi; omega) (by have := h1_1.2.2.2.1; omega)) rfl j5 ?_
     rintro _ g1 m1 ⟨Sl1, Ss1, W1, rfl, TV, fr1, le1⟩ hc1 hl1
     have kcl1 := TV.kl.cell
     have kcs1 := TV.ks.cell
     have q1 : g1 (n + 1) = some ⟨[[.int .i64 r.cl, .int .i64 r.st, .int .i64 r.kd, .int .i64 r.le, .str r.nm]], 5, 64⟩ := by rw [fr1 (n + 1) (by omega)]; (simp (disch := (first | omega | assumption)) only [↓appC, ↓updN, ↓updS, ↓app0]); rfl
     have q2 : g1 (n + 1 + 1) = some ⟨[[.int .i64 0, .int .i64 0, .nsl, .nsl]], 4, 35⟩ := by rw [fr1 (n + 1 + 1) (by omega)]; (simp (disch := (first | omega | assumption)) only [↓appC, ↓updN, ↓updS, ↓app0]); rfl
     have q3 : g1 (n + 1 + 1 + 1) = some ⟨[[.int .i64 0, .int .i64 0, .int .i64 0, .int .i64 0]], 4, 60⟩ := by rw [fr1 (n + 1 + 1 + 1) (by omega)]; (simp (disch := (first | omega | assumption)) only [↓appC, ↓updN, ↓updS, ↓app0]); rfl
     have qk : ∀ a, a < n → g1 a = h a := fun a ha => by rw [fr1 a (by omega)]; (simp (disch := (first | omega | assumption)) only [↓appC, ↓updN, ↓updS, ↓app0])
     refine L6 (cs := [.int _ _, .int _ _, .int _ _, .int _ _]) j5 ?_
     (apply D4 (u := .agg [.int _ _, .int _ _, _, _]) j3; exact Q0; exact C7; rfl; rfl; rfl; exact Q6; exact kb; rfl; exact j2)
     (apply D4 (u := .agg [.int _ _, .int _ _, .int _ _, .int _ _]) j3; exact Q0; exact C7; rfl; rfl; rfl; exact Q6; exact kb; rfl; exact j2)
     refine D0 j5 (A3 (A1 (A9 (B4 (B2 (E0 (A5 (A7 rfl (by exact Q0) j2 kb rfl) (A5 (A7 rfl (by exact Q0) j2 kb rfl) (A5 rfl A8))) (by (repeat first | exact Ch.refl _ | exact rc | refine Ch.trans ?_ hc3 | refine Ch.trans ?_ hc1 | refine Ch.upd ?_ | refine Ch.app ?_)) ?_))))))
     rw [X7 ⟨h1_1, h1_5⟩ h3_1 h5_2]
     exact ⟨Sl1, Ss1, W1, rfl, (TV.keep (Nat.le_refl _) (fun a h1 h2 => by (simp (disch := (first | omega | assumption)) only [↓appC, ↓updN, ↓updS, ↓app0]))).low (by omega), fun a ha => (by (simp (disch := (first | omega | assumption)) only [↓appC, ↓updN, ↓updS, ↓app0]); exact qk a ha), by omega⟩
    ·refine C6 j5 (A3 (A1 (wF rfl (B0 (B7 (A1 (A2 (A0 ?_))))))))
     (apply F9 (vs := [.int _ _, .int _ _, _, _]) j2; exact Q0; exact C7; rfl; exact kb; rfl; exact j3)
     refine K9 (o49N t B false true false hN (by have := h1_1.2.2.1; omega) (fun i hi => by have := OKw h1_1 hi; omega) (by have := h1_1.2.2.2.1; omega)) rfl j5 ?_
     rintro _ g1 m1 ⟨Sl1, Ss1, W1, rfl, TV, fr1, le1⟩ hc1 hl1
     have kcl1 := TV.kl.cell
     have kcs1 := TV.ks.cell
     have q1 : g1 (n + 1) = some ⟨[[.int .i64 r.cl, .int .i64 r.st, .int .i64 r.kd, .int .i64 r.le, .str r.nm]], 5, 64⟩ := by rw [fr1 (n + 1) (by omega)]; (simp (disch := (first | omega | assumption)) only [↓appC, ↓updN, ↓updS, ↓app0]); rfl
     have q2 : g1 (n + 1 + 1) = some ⟨[[.int .i64 0, .int .i64 0, .nsl, .nsl]], 4, 35⟩ := by rw [fr1 (n + 1 + 1) (by omega)]; (simp (disch := (first | omega | assumption)) only [↓appC, ↓updN, ↓updS, ↓app0]); rfl
     have q3 : g1 (n + 1 + 1 + 1) = some ⟨[[.int .i64 0, .int .i64 0, .int .i64 0, .int .i64 0]], 4, 60⟩ := by rw [fr1 (n + 1 + 1 + 1) (by omega)]; (simp (disch := (first | omega | assumption)) only [↓appC, ↓updN, ↓updS, ↓app0]); rfl
     have qk : ∀ a, a < n → g1 a = h a := fun a ha => by rw [fr1 a (by omega)]; (simp (disch := (first | omega | assumption)) only [↓appC, ↓updN, ↓updS, ↓app0])
     refine H3 j6 ?_
     (apply D4 (u := .agg [.int _ _, .int _ _, _, _]) j3; exact Q0; exact C7; rfl; rfl; rfl; exact Q6; exact kb; rfl; exact j2)
     refine A3 (A1 (A2 ?_))
     refine Y1 fun g2 hg2 => ?_
     have bq := Bq.of h1_1 h1_5 h3_1 (by omega)
     have T1 : TabM t m1 Sl1 Ss1 W1 g2 (m1 + 1) := TV.toM ⟨by omega, .inl (Nat.le_refl _)⟩ (by omega) (by rw [hg2]; (simp (disch := (first | omega | assumption)) only [↓appC, ↓updN, ↓updS, ↓app0]); rfl) (fun a h1 h2 => by rw [hg2]; (simp (disch := (first | omega | assumption)) only [↓appC, ↓updN, ↓updS, ↓app0]))
     have r1 : g2 (n + 1) = some ⟨[[.int .i64 r.cl, .int .i64 r.st, .int .i64 r.kd, .int .i64 r.le, .str r.nm]], 5, 64⟩ := by rw [hg2]; (simp (disch := (first | omega | assumption)) only [↓appC, ↓updN, ↓updS, ↓app0]); exact q1
     have r2 : g2 (n + 1 + 1) = some ⟨[[.int .i64 0, .int .i64 0, .nsl, .nsl]], 4, 35⟩ := by rw [hg2]; (simp (disch := (first | omega | assumption)) only [↓appC, ↓updN, ↓updS, ↓app0]); exact q2
     have r3 : g2 (n + 1 + 1 + 1) = some ⟨[[.int .i64 0, .int .i64 0, .int .i64 0, .int .i64 0]], 4, 60⟩ := by rw [hg2]; (simp (disch := (first | omega | assumption)) only [↓appC, ↓updN, ↓updS, ↓app0]); exact q3
     have rk : ∀ a, a < n → g2 a = h a := fun a ha => by rw [hg2]; (simp (disch := (first | omega | assumption)) only [↓appC, ↓updN, ↓updS, ↓app0]); exact qk a ha
     have rc : Ch h g2 := by rw [hg2]; (repeat first | exact Ch.refl _ | refine Ch.trans ?_ hc1 | refine Ch.upd ?_ | refine Ch.app ?_)
     refine A0 (B6 j5 ?_)
     (apply F9 (vs := [.int _ _, .int _ _, .int _ _, .int _ _, .str _]) j2; exact Q0; exact C7; rfl; exact kb; rfl; exact j3)
     refine K9 (o71 t now r bq T1) rfl j5 ?_
     rintro _ g3 m3 ⟨rfl, S3⟩ hc3 hl3
     obtain ⟨Sl2, Ss2, W2, T2, x1, x2, x3⟩ := S3
     have hO1 : ∀ a, OwnT m1 Sl1 Ss1 W1 t.lk.length a → n + 1 + 1 + 1 + 1 ≤ a := fun a o => by have := TV.ownM a o; omega
     have hO : ∀ a, OwnT m1 Sl2 Ss2 W2 (rqT t now r).1.lk.length a → n + 1 + 1 + 1 + 1 ≤ a := fun a o => (x1 a o).elim (fun e => hO1 a e) (fun e => by omega)
     have kcl2 := T2.kl.cell
     have kcs2 := T2.ks.cell
     have kid2 : g3 m1 = some ⟨[[.int .i64 (rqT t now r).1.tm, .int .i64 (rqT t now r).1.nx, Sl2, Ss2]], 4, 35⟩ := T2.kid
     have p2 : g3 (n + 1 + 1) = some ⟨[[.int .i64 0, .int .i64 0, .nsl, .nsl]], 4, 35⟩ := by rw [x2 (n + 1 + 1) (by omega) (fun o => by have := hO1 _ o; omega)]; exact r2
     have p3 : g3 (n + 1 + 1 + 1) = some ⟨[[.int .i64 0, .int .i64 0, .int .i64 0, .int .i64 0]], 4, 60⟩ := by rw [x2 (n + 1 + 1 + 1) (by omega) (fun o => by have := hO1 _ o; omega)]; exact r3
     have pk : ∀ a, a < n → g3 a = h a := fun a ha => by rw [x2 a (by omega) (fun o => by have := hO1 _ o; omega)]; exact rk a ha
     refine H3 j6 ?_
     (apply D4 (u := .agg [.int _ _, .int _ _, .int _ _, .int _ _]) j3; exact Q0; exact C7; rfl; rfl; rfl; exact Q6; exact kb; rfl; exact j2)
     refine A3 (A1 (A2 (C2 [0, 0, 1, 7, 15] rfl (by decide +kernel) ?_)))
     (apply L8 (vs := [.int _ _, .int _ _, _, _]) j2; exact Q0; exact C7; rfl; exact kb; exact j4)
     (apply L8 (vs := [.int _ _, .int _ _, .int _ _, .int _ _]) j2; exact Q0; exact C7; rfl; exact kb; exact j4)
     (apply dst (u := .agg [.int _ _, .int _ _, _, _]) rfl rfl rfl; exact Q0; exact C7; rfl; rfl; rfl; exact Q6; exact kb; rfl; rfl; rfl)
     (apply dst (u := .agg [.int _ _, .int _ _, .int _ _, .int _ _]) rfl rfl rfl; exact Q0; exact C7; rfl; rfl; rfl; exact Q6; exact kb; rfl; rfl; rfl)
     refine daI j5 (B1 5 [0, 3, 3, 1, 1] [(1, 2)] j2 (by decide +kernel) ?_ ?_)
     ·(simp [ClearL, ids]; try omega)
     refine A1 (A9 (E0 (A5 (A7 rfl (by exact Q0) j2 kb rfl) (A5 (A7 rfl (by exact Q0) j2 kb rfl) (A5 rfl A8))) (by (repeat first | exact Ch.refl _ | exact rc | refine Ch.trans ?_ hc3 | refine Ch.trans ?_ hc1 | refine Ch.upd ?_ | refine Ch.app ?_)) ?_))
     rw [BH ⟨h1_1, h1_5⟩ h3_1 h5_2]
     exact ⟨Sl2, Ss2, W2, rfl, ((T2.toV (n0 := n + 1 + 1 + 1 + 1) hO).keep (m := m3 + 1) (by omega) (fun a h1 h2 => by (simp (disch := (first | omega | assumption)) only [↓appC, ↓updN, ↓updS, ↓app0]))).low (by omega), fun a ha => (by (simp (disch := (first | omega | assumption)) only [↓appC, ↓updN, ↓updS, ↓app0]); exact pk a ha), by omega⟩
   ·refine D5 (c := false) j5 (C6 j5 (A3 (A1 (wT rfl (A2 (A0 (L6 (cs := [.int _ _, .int _ _, _, _]) j5 (L6 (cs := [.int _ _, .int _ _, .int _ _, .int _ _]) j5 ?_))))))))
    (apply D4 (u := .agg [.int _ _, .int _ _, _, _]) j3; exact Q0; exact C7; rfl; rfl; rfl; exact Q6; exact kb; rfl; exact j2)
    (apply D4 (u := .agg [.int _ _, .int _ _, .int _ _, .int _ _]) j3; exact Q0; exact C7; rfl; rfl; rfl; exact Q6; exact kb; rfl; exact j2)
    refine D0 j5 (A3 (A1 (A9 (B4 (B2 (E0 (A5 (A7 rfl (by exact Q0) j2 kb rfl) (A5 (A7 rfl (by exact Q0) j2 kb rfl) (A5 rfl A8))) (by (repeat first | exact Ch.refl _ | exact rc | refine Ch.trans ?_ hc3 | refine Ch.trans ?_ hc1 | refine Ch.upd ?_ | refine Ch.app ?_)) ?_))))))
    rw [AI ⟨h1_1, h1_5⟩ h3_1]
    exact ⟨.nsl, .nsl, _, rfl, TabV.zero _ _ _, fun a ha => (by (simp (disch := (first | omega | assumption)) only [↓appC, ↓updN, ↓updS, ↓app0])), by omega⟩
  ·refine D5 (c := false) j5 (C0 (e := true) j6 (C6 j5 (A3 (A1 (wT rfl (A2 (A0 (L6 (cs := [.int _ _, .int _ _, _, _]) j5 (L6 (cs := [.int _ _, .int _ _, .int _ _, .int _ _]) j5 ?_)))))))))
   (apply D4 (u := .agg [.int _ _, .int _ _, _, _]) j3; exact Q0; exact C7; rfl; rfl; rfl; exact Q6; exact kb; rfl; exact j2)
   (apply D4 (u := .agg [.int _ _, .int _ _, .int _ _, .int _ _]) j3; exact Q0; exact C7; rfl; rfl; rfl; exact Q6; exact kb; rfl; exact j2)
   refine D0 j5 (A3 (A1 (A9 (B4 (B2 ?_)))))
   have hb : ¬ (t.OK ∧ r.OK) := (fun e => by have e1 := e.1; have e2 := e.2; first | exact h1_1 e1 | exact h1_5 e2)
   refine E0 (A5 (A7 rfl (by exact Q0) j2 kb rfl) (A5 (A7 rfl (by exact Q0) j2 kb rfl) (A5 rfl A8))) (by (repeat first | exact Ch.refl _ | exact rc | refine Ch.trans ?_ hc3 | refine Ch.trans ?_ hc1 | refine Ch.upd ?_ | refine Ch.app ?_)) ?_
   rw [N5 hb]
   exact ⟨.nsl, .nsl, _, rfl, TabV.zero _ _ _, fun a ha => (by (simp (disch := (first | omega | assumption)) only [↓appC, ↓updN, ↓updS, ↓app0])), by omega⟩
 ·refine D5 (c := false) j5 (C4 j5 (A4 j3 (A4 j3 (A4 j3 (C0 (e := true) j6 (C6 j5 (A3 (A1 (wT rfl (A2 (A0 (L6 (cs := [.int _ _, .int _ _, _, _]) j5 ?_))))))))))))
  refine L6 (cs := [.int _ _, .int _ _, .int _ _, .int _ _]) j5 ?_
  (apply D4 (u := .agg [.int _ _, .int _ _, _, _]) j3; exact Q0; exact C7; rfl; rfl; rfl; exact Q6; exact kb; rfl; exact j2)
  (apply D4 (u := .agg [.int _ _, .int _ _, .int _ _, .int _ _]) j3; exact Q0; exact C7; rfl; rfl; rfl; exact Q6; exact kb; rfl; exact j2)
  refine D0 j5 (A3 (A1 (A9 (B4 (B2 ?_)))))
  have hb : ¬ (t.OK ∧ r.OK) := (fun e => by have e1 := e.1; have e2 := e.2; first | exact h1_1 e1 | exact h1_5 e2)
  refine E0 (A5 (A7 rfl (by exact Q0) j2 kb rfl) (A5 (A7 rfl (by exact Q0) j2 kb rfl) (A5 rfl A8))) (by (repeat first | exact Ch.refl _ | exact rc | refine Ch.trans ?_ hc3 | refine Ch.trans ?_ hc1 | refine Ch.upd ?_ | refine Ch.app ?_)) ?_
  rw [N5 hb]
  exact ⟨.nsl, .nsl, _, rfl, TabV.zero _ _ _, fun a ha => (by (simp (disch := (first | omega | assumption)) only [↓appC, ↓updN, ↓updS, ↓app0])), by omega⟩
theorem o27ff (t : Tb) (B : Nat → Bool) (hN : NilOK t B false false) (now : Int) (r : Rq) {h : Heap} {n : Nat} : OpenM En 27 [.agg [.int .i64 t.tm, .int .i64 t.nx, .nsl, .nsl], .int .i64 now, .agg [.int .i64 r.cl, .int .i64 r.st, .int .i64 r.kd, .int .i64 r.le, .str r.nm]] h n (fun v g m => ∃ Sl Ss W, v = .tup [.agg [.int .i64 (apA t now r).1.tm, .int .i64 (apA t now r).1.nx, Sl, Ss], .agg (apA t now r).2.1.V, .int .i64 (apA t now r).2.2] ∧ TabV (apA t now r).1 Sl Ss W g n m ∧ (∀ a, a < n → g a = h a) ∧ n ≤ m) := by
 refine OpenM.of_wp Try.func27 rfl kb ?_
 refine A2 (A0 ?_)
 (refine L7 (u := .agg [.int .i64 t.tm, .int .i64 t.nx, .nsl, .nsl]) j3 rfl j3 ?_)
 refine L7 (u := .agg [.int _ _, .int _ _, .int _ _, .int _ _, .str _]) j3 rfl j3 (H3 j6 (H3 j6 (D0 j5 (A3 (A1 (A2 (B3 (A2 (A0 ?_)))))))))
 (apply F9 (vs := [.int _ _, .int _ _, _, _]) j2; exact Q0; exact C7; rfl; exact kb; rfl; exact j3)
 refine F3 (Pure.ofN hN (p23 t false false false)) rfl j5 ?_ ?_ <;> intro h1_1
 ·refine D5 (c := true) j5 (C4 j5 ?_)
  (apply F9 (vs := [.int _ _, .int _ _, .int _ _, .int _ _, .str _]) j2; exact Q0; exact C7; rfl; exact kb; rfl; exact j3)
  refine F3 (p26 r) rfl j5 ?_ ?_ <;> intro h1_5
  ·refine D5 (c := true) j5 (C0 (e := false) j6 (C6 j5 (A3 (A1 (wF rfl (A2 (A0 (B6 j5 ?_))))))))
   refine F3 (s59 now) rfl j5 ?_ ?_ <;> intro h3_1
   ·refine D5 (c := true) j5 (C6 j5 (A3 (A1 (wF rfl (A2 (A0 (C1 (off := 1) (s := 1) (r := false) j3 kz j3 ?_)))))))
    (apply C5 (v := .int _ _) j2; exact Q0; exact C7; exact j5)
    refine V4 j6 ?_ ?_ <;> intro h5_2
    ·refine C6 j5 (A3 (A1 (wT rfl (A2 (A0 ?_)))))
     (apply F9 (vs := [.int _ _, .int _ _, _, _]) j2; exact Q0; exact C7; rfl; exact kb; rfl; exact j3)
     refine K9 (o49N t B false false false hN (by have := h1_1.2.2.1; omega) (fun i hi => by have := OKw h1_1 hi; omega) (by have := h1_1.2.2.2.1; omega)) rfl j5 ?_
     rintro _ g1 m1 ⟨Sl1, Ss1, W1, rfl, TV, fr1, le1⟩ hc1 hl1
     have kcl1 := TV.kl.cell
     have kcs1 := TV.ks.cell
     have q1 : g1 (n + 1) = some ⟨[[.int .i64 r.cl, .int .i64 r.st, .int .i64 r.kd, .int .i64 r.le, .str r.nm]], 5, 64⟩ := by rw [fr1 (n + 1) (by omega)]; (simp (disch := (first | omega | assumption)) only [↓appC, ↓updN, ↓updS, ↓app0]); rfl
     have q2 : g1 (n + 1 + 1) = some ⟨[[.int .i64 0, .int .i64 0, .nsl, .nsl]], 4, 35⟩ := by rw [fr1 (n + 1 + 1) (by omega)]; (simp (disch := (first | omega | assumption)) only [↓appC, ↓updN, ↓updS, ↓app0]); rfl
     have q3 : g1 (n + 1 + 1 + 1) = some ⟨[[.int .i64 0, .int .i64 0, .int .i64 0, .int .i64 0]], 4, 60⟩ := by rw [fr1 (n + 1 + 1 + 1) (by omega)]; (simp (disch := (first | omega | assumption)) only [↓appC, ↓updN, ↓updS, ↓app0]); rfl
     have qk : ∀ a, a < n → g1 a = h a := fun a ha => by rw [fr1 a (by omega)]; (simp (disch := (first | omega | assumption)) only [↓appC, ↓updN, ↓updS, ↓app0])
     refine L6 (cs := [.int _ _, .int _ _, .int _ _, .int _ _]) j5 ?_
     (apply D4 (u := .agg [.int _ _, .int _ _, _, _]) j3; exact Q0; exact C7; rfl; rfl; rfl; exact Q6; exact kb; rfl; exact j2)
     (apply D4 (u := .agg [.int _ _, .int _ _, .int _ _, .int _ _]) j3; exact Q0; exact C7; rfl; rfl; rfl; exact Q6; exact kb; rfl; exact j2)
     refine D0 j5 (A3 (A1 (A9 (B4 (B2 (E0 (A5 (A7 rfl (by exact Q0) j2 kb rfl) (A5 (A7 rfl (by exact Q0) j2 kb rfl) (A5 rfl A8))) (by (repeat first | exact Ch.refl _ | exact rc | refine Ch.trans ?_ hc3 | refine Ch.trans ?_ hc1 | refine Ch.upd ?_ | refine Ch.app ?_)) ?_))))))
     rw [X7 ⟨h1_1, h1_5⟩ h3_1 h5_2]
     exact ⟨Sl1, Ss1, W1, rfl, (TV.keep (Nat.le_refl _) (fun a h1 h2 => by (simp (disch := (first | omega | assumption)) only [↓appC, ↓updN, ↓updS, ↓app0]))).low (by omega), fun a ha => (by (simp (disch := (first | omega | assumption)) only [↓appC, ↓updN, ↓updS, ↓app0]); exact qk a ha), by omega⟩
    ·refine C6 j5 (A3 (A1 (wF rfl (B0 (B7 (A1 (A2 (A0 ?_))))))))
     (apply F9 (vs := [.int _ _, .int _ _, _, _]) j2; exact Q0; exact C7; rfl; exact kb; rfl; exact j3)
     refine K9 (o49N t B false false false hN (by have := h1_1.2.2.1; omega) (fun i hi => by have := OKw h1_1 hi; omega) (by have := h1_1.2.2.2.1; omega)) rfl j5 ?_
     rintro _ g1 m1 ⟨Sl1, Ss1, W1, rfl, TV, fr1, le1⟩ hc1 hl1
     have kcl1 := TV.kl.cell
     have kcs1 := TV.ks.cell
     have q1 : g1 (n + 1) = some ⟨[[.int .i64 r.cl, .int .i64 r.st, .int .i64 r.kd, .int .i64 r.le, .str r.nm]], 5, 64⟩ := by rw [fr1 (n + 1) (by omega)]; (simp (disch := (first | omega | assumption)) only [↓appC, ↓updN, ↓updS, ↓app0]); rfl
     have q2 : g1 (n + 1 + 1) = some ⟨[[.int .i64 0, .int .i64 0, .nsl, .nsl]], 4, 35⟩ := by rw [fr1 (n + 1 + 1) (by omega)]; (simp (disch := (first | omega | assumption)) only [↓appC, ↓updN, ↓updS, ↓app0]); rfl
     have q3 : g1 (n + 1 + 1 + 1) = some ⟨[[.int .i64 0, .int .i64 0, .int .i64 0, .int .i64 0]], 4, 60⟩ := by rw [fr1 (n + 1 + 1 + 1) (by omega)]; (simp (disch := (first | omega | assumption)) only [↓appC, ↓updN, ↓updS, ↓app0]); rfl
     have qk : ∀ a, a < n → g1 a = h a := fun a ha => by rw [fr1 a (by omega)]; (simp (disch := (first | omega | assumption)) only [↓appC, ↓updN, ↓updS, ↓app0])
     refine H3 j6 ?_
     (apply D4 (u := .agg [.int _ _, .int _ _, _, _]) j3; exact Q0; exact C7; rfl; rfl; rfl; exact Q6; exact kb; rfl; exact j2)
     refine A3 (A1 (A2 ?_))
     refine Y1 fun g2 hg2 => ?_
     have bq := Bq.of h1_1 h1_5 h3_1 (by omega)
     have T1 : TabM t m1 Sl1 Ss1 W1 g2 (m1 + 1) := TV.toM ⟨by omega, .inl (Nat.le_refl _)⟩ (by omega) (by rw [hg2]; (simp (disch := (first | omega | assumption)) only [↓appC, ↓updN, ↓updS, ↓app0]); rfl) (fun a h1 h2 => by rw [hg2]; (simp (disch := (first | omega | assumption)) only [↓appC, ↓updN, ↓updS, ↓app0]))
     have r1 : g2 (n + 1) = some ⟨[[.int .i64 r.cl, .int .i64 r.st, .int .i64 r.kd, .int .i64 r.le, .str r.nm]], 5, 64⟩ := by rw [hg2]; (simp (disch := (first | omega | assumption)) only [↓appC, ↓updN, ↓updS, ↓app0]); exact q1
     have r2 : g2 (n + 1 + 1) = some ⟨[[.int .i64 0, .int .i64 0, .nsl, .nsl]], 4, 35⟩ := by rw [hg2]; (simp (disch := (first | omega | assumption)) only [↓appC, ↓updN, ↓updS, ↓app0]); exact q2
     have r3 : g2 (n + 1 + 1 + 1) = some ⟨[[.int .i64 0, .int .i64 0, .int .i64 0, .int .i64 0]], 4, 60⟩ := by rw [hg2]; (simp (disch := (first | omega | assumption)) only [↓appC, ↓updN, ↓updS, ↓app0]); exact q3
     have rk : ∀ a, a < n → g2 a = h a := fun a ha => by rw [hg2]; (simp (disch := (first | omega | assumption)) only [↓appC, ↓updN, ↓updS, ↓app0]); exact qk a ha
     have rc : Ch h g2 := by rw [hg2]; (repeat first | exact Ch.refl _ | refine Ch.trans ?_ hc1 | refine Ch.upd ?_ | refine Ch.app ?_)
     refine A0 (B6 j5 ?_)
     (apply F9 (vs := [.int _ _, .int _ _, .int _ _, .int _ _, .str _]) j2; exact Q0; exact C7; rfl; exact kb; rfl; exact j3)
     refine K9 (o71 t now r bq T1) rfl j5 ?_
     rintro _ g3 m3 ⟨rfl, S3⟩ hc3 hl3
     obtain ⟨Sl2, Ss2, W2, T2, x1, x2, x3⟩ := S3
     have hO1 : ∀ a, OwnT m1 Sl1 Ss1 W1 t.lk.length a → n + 1 + 1 + 1 + 1 ≤ a := fun a o => by have := TV.ownM a o; omega
     have hO : ∀ a, OwnT m1 Sl2 Ss2 W2 (rqT t now r).1.lk.length a → n + 1 + 1 + 1 + 1 ≤ a := fun a o => (x1 a o).elim (fun e => hO1 a e) (fun e => by omega)
     have kcl2 := T2.kl.cell
     have kcs2 := T2.ks.cell
     have kid2 : g3 m1 = some ⟨[[.int .i64 (rqT t now r).1.tm, .int .i64 (rqT t now r).1.nx, Sl2, Ss2]], 4, 35⟩ := T2.kid
     have p2 : g3 (n + 1 + 1) = some ⟨[[.int .i64 0, .int .i64 0, .nsl, .nsl]], 4, 35⟩ := by rw [x2 (n + 1 + 1) (by omega) (fun o => by have := hO1 _ o; omega)]; exact r2
     have p3 : g3 (n + 1 + 1 + 1) = some ⟨[[.int .i64 0, .int .i64 0, .int .i64 0, .int .i64 0]], 4, 60⟩ := by rw [x2 (n + 1 + 1 + 1) (by omega) (fun o => by have := hO1 _ o; omega)]; exact r3
     have pk : ∀ a, a < n → g3 a = h a := fun a ha => by rw [x2 a (by omega) (fun o => by have := hO1 _ o; omega)]; exact rk a ha
     refine H3 j6 ?_
     (apply D4 (u := .agg [.int _ _, .int _ _, .int _ _, .int _ _]) j3; exact Q0; exact C7; rfl; rfl; rfl; exact Q6; exact kb; rfl; exact j2)
     refine A3 (A1 (A2 (C2 [0, 0, 1, 7, 15] rfl (by decide +kernel) ?_)))
     (apply L8 (vs := [.int _ _, .int _ _, _, _]) j2; exact Q0; exact C7; rfl; exact kb; exact j4)
     (apply L8 (vs := [.int _ _, .int _ _, .int _ _, .int _ _]) j2; exact Q0; exact C7; rfl; exact kb; exact j4)
     (apply dst (u := .agg [.int _ _, .int _ _, _, _]) rfl rfl rfl; exact Q0; exact C7; rfl; rfl; rfl; exact Q6; exact kb; rfl; rfl; rfl)
     (apply dst (u := .agg [.int _ _, .int _ _, .int _ _, .int _ _]) rfl rfl rfl; exact Q0; exact C7; rfl; rfl; rfl; exact Q6; exact kb; rfl; rfl; rfl)
     refine daI j5 (B1 5 [0, 3, 3, 1, 1] [(1, 2)] j2 (by decide +kernel) ?_ ?_)
     ·(simp [ClearL, ids]; try omega)
     refine A1 (A9 (E0 (A5 (A7 rfl (by exact Q0) j2 kb rfl) (A5 (A7 rfl (by exact Q0) j2 kb rfl) (A5 rfl A8))) (by (repeat first | exact Ch.refl _ | exact rc | refine Ch.trans ?_ hc3 | refine Ch.trans ?_ hc1 | refine Ch.upd ?_ | refine Ch.app ?_)) ?_))
     rw [BH ⟨h1_1, h1_5⟩ h3_1 h5_2]
     exact ⟨Sl2, Ss2, W2, rfl, ((T2.toV (n0 := n + 1 + 1 + 1 + 1) hO).keep (m := m3 + 1) (by omega) (fun a h1 h2 => by (simp (disch := (first | omega | assumption)) only [↓appC, ↓updN, ↓updS, ↓app0]))).low (by omega), fun a ha => (by (simp (disch := (first | omega | assumption)) only [↓appC, ↓updN, ↓updS, ↓app0]); exact pk a ha), by omega⟩
   ·refine D5 (c := false) j5 (C6 j5 (A3 (A1 (wT rfl (A2 (A0 (L6 (cs := [.int _ _, .int _ _, _, _]) j5 (L6 (cs := [.int _ _, .int _ _, .int _ _, .int _ _]) j5 ?_))))))))
    (apply D4 (u := .agg [.int _ _, .int _ _, _, _]) j3; exact Q0; exact C7; rfl; rfl; rfl; exact Q6; exact kb; rfl; exact j2)
    (apply D4 (u := .agg [.int _ _, .int _ _, .int _ _, .int _ _]) j3; exact Q0; exact C7; rfl; rfl; rfl; exact Q6; exact kb; rfl; exact j2)
    refine D0 j5 (A3 (A1 (A9 (B4 (B2 (E0 (A5 (A7 rfl (by exact Q0) j2 kb rfl) (A5 (A7 rfl (by exact Q0) j2 kb rfl) (A5 rfl A8))) (by (repeat first | exact Ch.refl _ | exact rc | refine Ch.trans ?_ hc3 | refine Ch.trans ?_ hc1 | refine Ch.upd ?_ | refine Ch.app ?_)) ?_))))))
    rw [AI ⟨h1_1, h1_5⟩ h3_1]
    exact ⟨.nsl, .nsl, _, rfl, TabV.zero _ _ _, fun a ha => (by (simp (disch := (first | omega | assumption)) only [↓appC, ↓updN, ↓updS, ↓app0])), by omega⟩
  ·refine D5 (c := false) j5 (C0 (e := true) j6 (C6 j5 (A3 (A1 (wT rfl (A2 (A0 (L6 (cs := [.int _ _, .int _ _, _, _]) j5 (L6 (cs := [.int _ _, .int _ _, .int _ _, .int _ _]) j5 ?_)))))))))
   (apply D4 (u := .agg [.int _ _, .int _ _, _, _]) j3; exact Q0; exact C7; rfl; rfl; rfl; exact Q6; exact kb; rfl; exact j2)
   (apply D4 (u := .agg [.int _ _, .int _ _, .int _ _, .int _ _]) j3; exact Q0; exact C7; rfl; rfl; rfl; exact Q6; exact kb; rfl; exact j2)
   refine D0 j5 (A3 (A1 (A9 (B4 (B2 ?_)))))
   have hb : ¬ (t.OK ∧ r.OK) := (fun e => by have e1 := e.1; have e2 := e.2; first | exact h1_1 e1 | exact h1_5 e2)
   refine E0 (A5 (A7 rfl (by exact Q0) j2 kb rfl) (A5 (A7 rfl (by exact Q0) j2 kb rfl) (A5 rfl A8))) (by (repeat first | exact Ch.refl _ | exact rc | refine Ch.trans ?_ hc3 | refine Ch.trans ?_ hc1 | refine Ch.upd ?_ | refine Ch.app ?_)) ?_
   rw [N5 hb]
   exact ⟨.nsl, .nsl, _, rfl, TabV.zero _ _ _, fun a ha => (by (simp (disch := (first | omega | assumption)) only [↓appC, ↓updN, ↓updS, ↓app0])), by omega⟩
 ·refine D5 (c := false) j5 (C4 j5 (A4 j3 (A4 j3 (A4 j3 (C0 (e := true) j6 (C6 j5 (A3 (A1 (wT rfl (A2 (A0 (L6 (cs := [.int _ _, .int _ _, _, _]) j5 ?_))))))))))))
  refine L6 (cs := [.int _ _, .int _ _, .int _ _, .int _ _]) j5 ?_
  (apply D4 (u := .agg [.int _ _, .int _ _, _, _]) j3; exact Q0; exact C7; rfl; rfl; rfl; exact Q6; exact kb; rfl; exact j2)
  (apply D4 (u := .agg [.int _ _, .int _ _, .int _ _, .int _ _]) j3; exact Q0; exact C7; rfl; rfl; rfl; exact Q6; exact kb; rfl; exact j2)
  refine D0 j5 (A3 (A1 (A9 (B4 (B2 ?_)))))
  have hb : ¬ (t.OK ∧ r.OK) := (fun e => by have e1 := e.1; have e2 := e.2; first | exact h1_1 e1 | exact h1_5 e2)
  refine E0 (A5 (A7 rfl (by exact Q0) j2 kb rfl) (A5 (A7 rfl (by exact Q0) j2 kb rfl) (A5 rfl A8))) (by (repeat first | exact Ch.refl _ | exact rc | refine Ch.trans ?_ hc3 | refine Ch.trans ?_ hc1 | refine Ch.upd ?_ | refine Ch.app ?_)) ?_
  rw [N5 hb]
  exact ⟨.nsl, .nsl, _, rfl, TabV.zero _ _ _, fun a ha => (by (simp (disch := (first | omega | assumption)) only [↓appC, ↓updN, ↓updS, ↓app0])), by omega⟩
theorem o27N (t : Tb) (B : Nat → Bool) (b1 b2 : Bool) (hN : NilOK t B b1 b2) (now : Int) (r : Rq) {h : Heap} {n : Nat} : OpenM En 27 [.agg [.int .i64 t.tm, .int .i64 t.nx, T.toV false (nlT b1 (lksN B t.lk)), T.toV false (nlT b2 (t.sn.map Sn.T))], .int .i64 now, .agg [.int .i64 r.cl, .int .i64 r.st, .int .i64 r.kd, .int .i64 r.le, .str r.nm]] h n (fun v g m => ∃ Sl Ss W, v = .tup [.agg [.int .i64 (apA t now r).1.tm, .int .i64 (apA t now r).1.nx, Sl, Ss], .agg (apA t now r).2.1.V, .int .i64 (apA t now r).2.2] ∧ TabV (apA t now r).1 Sl Ss W g n m ∧ (∀ a, a < n → g a = h a) ∧ n ≤ m) := by
 cases b1 <;> cases b2
 ·exact o27ff t B hN now r
 ·exact o27ft t B hN now r
 ·exact o27tf t B hN now r
 ·exact o27tt t B hN now r
open Go.V
set_option linter.unusedVariables false
set_option linter.unusedSimpArgs false
set_option maxRecDepth 20000
set_option maxHeartbeats 4000000
open Go.V
set_option linter.unusedVariables false
set_option linter.unusedSimpArgs false
set_option maxRecDepth 20000
set_option maxHeartbeats 4000000
open Go.V
set_option linter.unusedVariables false
set_option linter.unusedSimpArgs false
set_option maxRecDepth 20000
set_option maxHeartbeats 4000000
theorem rowsRq (L : List Rq) : rowsV (L.map Rq.T) = L.map Rq.V := by unfold rowsV; rw [List.map_map]; rfl
theorem rowsI (L : List Int) : rowsV (L.map iT) = L.map iV := by unfold rowsV; rw [List.map_map]; rfl
def tabA (t : Tb) : V := .agg [.int .i64 t.tm, .int .i64 t.nx, .sl true true (t.lk.map (Lk.T true)), .sl true true (t.sn.map Sn.T)]
open Go.V
set_option linter.unusedVariables false
set_option linter.unusedSimpArgs false
set_option maxRecDepth 20000
set_option maxHeartbeats 4000000
theorem openTup {f : FuncId} {az res : List A} {xs : List V} {wr : List (Nat × Option Blk)} {m : Nat} {ids : List Nat} (ho : V.Open En f (az.map (A.toV false)) (fun _ => none) 0 (.tup xs) wr m) (hne : res.length ≠ 1) (hs : SnapL (app wr (fun _ => none)) ids true xs res) : Pure En f az res := by
 unfold V.Open at ho
 unfold V.Pure
 refine ⟨ho.1.1, fun I w vs hI hgl hal har => ?_⟩
 have hg0 : V.Good En ⟨fun _ => none, I, w.heap.size, w⟩ (fun _ => none) := ⟨fun id b h => by simp at h, fun id id' b b' p p' h => by simp at h, hI, fun id b p h => by simp at h, fun id p h => by simp at h, Nat.le_refl _, hgl⟩
 refine Calls.mono (ho.2 ⟨fun _ => none, I, w.heap.size, w⟩ vs hg0 (fun _ _ => rfl) (by rw [List.length_map]; exact hal) (fun i x u h1 h2 => ?_)) ?_
 ·rw [List.getElem?_map] at h1
  cases ha : az[i]? with
  | none => rw [ha] at h1; cases h1
  | some a => rw [ha] at h1; cases h1; exact ((har i a u ha h2).mono (fun b hb => ⟨hb, by simp⟩) (fun _ _ => rfl)).toV
 ·rintro e w' ⟨u, c', rfl, rfl, hxt, hg', hd', hv⟩
  have hB : c'.B = w.heap.size := hxt.B
  have hlive : ∀ b, Seen c' (app wr (fun _ => none)) true b → w.heap.size ≤ b ∧ b < c'.w.heap.size := by
   rintro b ⟨h4 | ⟨id, y, p, _, h5, rfl⟩, h6⟩
   ·exact ⟨by have := h6 rfl; omega, hg'.imm b h4⟩
   ·exact ⟨by have := h6 rfl; omega, (hg'.own id p h5).2⟩
  obtain ⟨us, rfl, hul, hus⟩ := hv.tup_inv
  have hsp := hs.spec
  refine ⟨_, rfl, hxt.below, .tup res us hne (by rw [← hsp.1, hul]) fun i a v ha hv2 => ?_⟩
  have hlt : i < xs.length := by rw [hsp.1]; exact (List.getElem?_eq_some_iff.1 ha).1
  exact ((hsp.2 i xs[i] a (by simp [hlt]) ha).ok hg' (hus i xs[i] v (by simp [hlt]) hv2)).mono hlive (fun _ _ => rfl)
def Nl := (Nat → Bool) × Bool × Bool
abbrev Tb.M (t : Tb) (x : Nl) : List V.T := t.N x.1 x.2.1 x.2.2
abbrev NilM (t : Tb) (x : Nl) : Prop := NilOK t x.1 x.2.1 x.2.2
theorem p27N (t : Tb) (x : Nl) (hN : NilM t x) (now : Int) (r : Rq) : ∃ y : Nl, NilM (apA t now r).1 y ∧ Pure En 27 [.agg (t.M x), .one (.int .i64 now), .agg r.T] [.agg ((apA t now r).1.M y), .agg (apA t now r).2.1.T, .one (.int .i64 (apA t now r).2.2)] := by
 obtain ⟨⟨v, wr, m⟩, ⟨Sl, Ss, W, hv, T, _, _⟩, ho⟩ := o27N t x.1 x.2.1 x.2.2 hN now r (h := fun _ => none) (n := 0)
 dsimp only at hv T ho
 subst hv
 exact ⟨(fun i => isV (W i), isV Sl, isV Ss), T.nilOK, openTup (ids := tabIds Sl Ss W (apA t now r).1.lk.length) ho (by simp) (SnapL.cons _ _ _ _ (snapTabN T (fun _ h => h)) (SnapL.cons _ _ _ _ (SnapC.agg (.cons _ _ _ _ (.int _ _) (.cons _ _ _ _ (.int _ _) (.cons _ _ _ _ (.int _ _) (.cons _ _ _ _ (.int _ _) .nil))))) (SnapL.cons _ _ _ _ (.one _ _ (.int _ _)) .nil)))⟩
theorem s21 (nn : Bool) (B : List Int) (hB : bytes B) (hL : B.length ≤ 1048577) : ∃ x : List Rq × List Int, Reqs x.1 x.2 ∧ Pure En 21 [.one (.sl nn (B.map bT))] [.one (.sl true (x.1.map Rq.T))] ∧ Pure En 22 [.one (.sl nn (B.map bT))] [.one (.sl true (x.2.map iT))] := by
 obtain ⟨sd, hs, O1⟩ := o13 false nn B (h := fun _ => none) (n := 0)
 obtain ⟨⟨v, wr, m⟩, ⟨L, Tm, bq, bt, hv, hR1, hR2, hl, gq, gt, hb, hfr⟩, O2⟩ := o64 false nn B hB hL 0 sd (by decide) hs (id := 0) (h := app [(0, some (srcB false nn B 0 sd))] (fun _ => none)) (n := 0 + 1) (by decide) rfl
 dsimp only at hv gq gt O2
 subst hv
 refine ⟨(L, Tm), ⟨hR1, hR2, hl⟩, ?_, ?_⟩
 ·refine Pure.of_wp Try.func21 rfl kb ?_
  refine A2 (A0 (AA j5 (A3 (A1 (A2 (A0 (I8 j5 (I9 O1 rfl rfl rfl rfl rfl rfl (I9 O2 rfl rfl rfl rfl rfl rfl (rmT j5 (T6 j6 (T6 j6 ?_))))))))))))
  refine S6 j5 (S6 j5 (A3 (A1 (A2 (A0 (K1 j5 (S6 j5 (A3 (A1 (A9 (P9 [bq] (A5 rfl A8) ?_)))))))))))
  exact SnapL.cons _ _ _ _ (.one _ _ (H7 (L.map Rq.T) (List.mem_singleton.2 rfl) (by first | exact gq | rfl) (rowsRq L).symm (by first | rfl | exact (List.length_map ..).symm))) SnapL.nil
 ·refine Pure.of_wp Try.func22 rfl kb ?_
  refine A2 (A0 (AA j5 (A3 (A1 (A2 (A0 (I8 j5 (I9 O1 rfl rfl rfl rfl rfl rfl (I9 O2 rfl rfl rfl rfl rfl rfl (rmT j5 (T6 j6 (T6 j6 ?_))))))))))))
  refine S6 j5 (S6 j5 (A3 (A1 (A2 (A0 (K1 j5 (S6 j5 (A3 (A1 (A9 (P9 [bt] (A5 rfl A8) ?_)))))))))))
  exact SnapL.cons _ _ _ _ (.one _ _ (H7 (Tm.map iT) (List.mem_singleton.2 rfl) (by first | exact gt | rfl) (rowsI Tm).symm (by first | rfl | exact (List.length_map ..).symm))) SnapL.nil
theorem s100 (b : Bool) (L : List Rq) (h : L.length ≤ 30) : Pure En 100 [.one (.sl b (L.map Rq.T))] [.one (.bool false)] := by
 have hl : (L.map Rq.T).length = L.length := List.length_map ..
 refine Pure.of_wp Try.func100 rfl kb ?_
 refine A2 (A0 (C6 j5 (A3 (A1 (A2 (A0 (I8 j5 (H0 rfl rfl rfl j3 ?_))))))))
 refine V4 j6 (fun h => absurd h (by omega)) ?_
 intro h1_2
 refine C6 j5 (A3 (A1 (A9 ?_)))
 exact fin rfl rfl
theorem s101 (b : Bool) (L : List Int) (h : L.length ≤ 30) : Pure En 101 [.one (.sl b (L.map iT))] [.one (.bool false)] := by
 have hl : (L.map iT).length = L.length := List.length_map ..
 refine Pure.of_wp Try.func101 rfl kb ?_
 refine A2 (A0 (C6 j5 (A3 (A1 (A2 (A0 (I8 j5 (H0 rfl rfl rfl j3 ?_))))))))
 refine V4 j6 (fun h => absurd h (by omega)) ?_
 intro h1_2
 refine C6 j5 (A3 (A1 (A9 ?_)))
 exact fin rfl rfl
theorem s103 (r : Rq) (h : r.OK) : Pure En 103 [.agg r.T] [.one (.bool false)] := by
 refine Pure.of_wp Try.func103 rfl kb ?_
 refine A2 (A0 (L7 (u := .agg [.int _ _, .int _ _, .int _ _, .int _ _, .str _]) j3 rfl j3 (C6 j5 (A3 (A1 (A2 (A0 ?_)))))))
 (apply F9 (vs := [.int _ _, .int _ _, .int _ _, .int _ _, .str _]) j2; exact Q0; rfl; rfl; exact kb; rfl; exact j3)
 refine F3 (p26 r) rfl j5 ?_ ?_ <;> intro h1_1
 ·refine D5 (c := true) j5 (C6 j5 (A3 (A1 (A9 ?_))))
  first | exact fin rfl rfl | exact absurd h (by assumption)
 ·refine D5 (c := false) j5 (C6 j5 (A3 (A1 (A9 ?_))))
  first | exact fin rfl rfl | exact absurd h (by assumption)
theorem s105 (x : Int) (h : 0 ≤ x ∧ x ≤ 1000000000) : Pure En 105 [.one (.int .i64 x)] [.one (.bool false)] := by
 refine Pure.of_wp Try.func105 rfl kb ?_
 refine A2 (A0 (C6 j5 (A3 (A1 (A2 (A0 (B6 j5 ?_)))))))
 refine F3 (s59 x) rfl j5 ?_ ?_ <;> intro h1_1
 ·refine D5 (c := true) j5 (C6 j5 (A3 (A1 (A9 ?_))))
  first | exact fin rfl rfl | exact absurd h (by assumption)
 ·refine D5 (c := false) j5 (C6 j5 (A3 (A1 (A9 ?_))))
  first | exact fin rfl rfl | exact absurd h (by assumption)
theorem o127 (b : Bool) (L : List Rq) (hL : L.length ≤ 30) (hk : ∀ x ∈ L, x.OK) {h : Heap} {n : Nat} : V.Open En 127 [.sl false b (L.map Rq.T), .clo 103 []] h n (.int .i64 (-1)) [] n := by
 have hl : (L.map Rq.T).length = L.length := List.length_map ..
 refine V.Open.of_wp Try.func127 rfl kb ?_
 refine A2 (A0 (D0 j5 (A3 (A1 (A2 (A2 (A0 (I8 j5 (H0 rfl rfl rfl j3 (B6 j5 (A3 (A1 ?_))))))))))))
 refine B3 (F0 ?_)
 refine E9 (fun (i : Nat) => [.sl false b (L.map Rq.T), .clo 103 [], .unk, .unk, .unk, .unk, .unk, .int .i64 (L.map Rq.T).length, .int .i64 i]) (fun (i : Nat) => h) (fun (i : Nat) => n) (fun (i : Nat) => i ≤ L.length) (fun (i : Nat) => L.length - i) 0 ?_ ?_ ?_ ?_ ?_
 ·exact Nat.zero_le _
 ·(repeat first | exact LE.nil _ | refine LE.unk _ _ ?_ | refine LE.eq _ _ _ rfl ?_)
 ·exact LessH.refl _
 ·exact Nat.le_refl _
 intro i hI ih
 refine E8 (A2 (A0 ?_))
 refine I6 j6 ?_ ?_ <;> intro h2_0
 ·refine A3 (A1 (A2 (wT rfl (B0 (A1 (A2 (B3 (A2 (A0 (B6 j5 (D0 j5 (A3 ?_))))))))))))
  refine A1 (A2 (A0 (rmC j5 (I8 j5 (B6 j5 ?_)))))
  (apply N0 j4; exact Q4; (first | rfl | assumption | (exact D8 Rq.T Rq0 (by omega))); exact j4)
  refine T7 (vs := [.int _ _, .int _ _, .int _ _, .int _ _, .str _]) j3 kb j4 (AB (s103 (L.getD i Rq0) (hk _ (G3 (by omega)))) rfl j5 ?_)
  refine A3 (A1 (wF rfl (B0 (B7 (A1 (A0 (C3 j3 ?_ ?_ j3 ?_)))))))
  ·exact Q4
  ·exact Q4
  refine B6 j5 (A3 (D1 ?_))
  exact H4 (ih (i + 1) (by omega) (by omega)) (by (repeat first | exact LE.nil _ | refine LE.unk _ _ ?_ | refine LE.eq _ _ _ rfl ?_)) (LessH.refl _) (Nat.le_refl _)
 ·refine A3 (A1 (A2 (wF rfl (E5 (E6 (D7 (C8 (A1 (A2 (A0 (D0 j5 (A3 ?_))))))))))))
  refine A1 (A9 ?_)
  exact E7 rfl rfl (fun _ _ _ e => e) (Nat.le_refl _)
theorem o102 (b : Bool) (L : List Rq) (hL : L.length ≤ 30) (hk : ∀ x ∈ L, x.OK) {h : Heap} {n : Nat} : V.Open En 102 [.sl false b (L.map Rq.T), .clo 103 []] h n (.bool false) [] n := by
 refine V.Open.of_wp Try.func102 rfl kb ?_
 refine A2 (A0 (C6 j5 (A3 (A1 (A2 (A0 (I8 j5 (rmC j5 (I9 (o127 b L hL hk) rfl rfl rfl rfl rfl rfl ?_)))))))))
 refine rge j6 (fun h => absurd h (by omega)) ?_
 intro h1_3
 refine C6 j5 (A3 (A1 (A9 ?_)))
 exact E7 rfl rfl (fun _ _ _ e => e) (Nat.le_refl _)
theorem o128 (b : Bool) (L : List Int) (hL : L.length ≤ 30) (hk : ∀ x ∈ L, (0 ≤ x ∧ x ≤ 1000000000)) {h : Heap} {n : Nat} : V.Open En 128 [.sl false b (L.map iT), .clo 105 []] h n (.int .i64 (-1)) [] n := by
 have hl : (L.map iT).length = L.length := List.length_map ..
 refine V.Open.of_wp Try.func128 rfl kb ?_
 refine A2 (A0 (D0 j5 (A3 (A1 (A2 (A2 (A0 (I8 j5 (H0 rfl rfl rfl j3 (B6 j5 (A3 (A1 ?_))))))))))))
 refine B3 (F0 ?_)
 refine E9 (fun (i : Nat) => [.sl false b (L.map iT), .clo 105 [], .unk, .unk, .unk, .unk, .unk, .int .i64 (L.map iT).length, .int .i64 i]) (fun (i : Nat) => h) (fun (i : Nat) => n) (fun (i : Nat) => i ≤ L.length) (fun (i : Nat) => L.length - i) 0 ?_ ?_ ?_ ?_ ?_
 ·exact Nat.zero_le _
 ·(repeat first | exact LE.nil _ | refine LE.unk _ _ ?_ | refine LE.eq _ _ _ rfl ?_)
 ·exact LessH.refl _
 ·exact Nat.le_refl _
 intro i hI ih
 refine E8 (A2 (A0 ?_))
 refine I6 j6 ?_ ?_ <;> intro h2_0
 ·refine A3 (A1 (A2 (wT rfl (B0 (A1 (A2 (B3 (A2 (A0 (B6 j5 (D0 j5 (A3 ?_))))))))))))
  refine A1 (A2 (A0 (rmC j5 (I8 j5 (B6 j5 ?_)))))
  (apply N0 j4; exact Q4; (first | rfl | assumption | (exact D8 iT 0 (by omega))); exact j4)
  refine rlic (v := .int _ _) j8 (AB (s105 (L.getD i 0) (hk _ (G3 (by omega)))) rfl j5 ?_)
  refine A3 (A1 (wF rfl (B0 (B7 (A1 (A0 (C3 j3 ?_ ?_ j3 ?_)))))))
  ·exact Q4
  ·exact Q4
  refine B6 j5 (A3 (D1 ?_))
  exact H4 (ih (i + 1) (by omega) (by omega)) (by (repeat first | exact LE.nil _ | refine LE.unk _ _ ?_ | refine LE.eq _ _ _ rfl ?_)) (LessH.refl _) (Nat.le_refl _)
 ·refine A3 (A1 (A2 (wF rfl (E5 (E6 (D7 (C8 (A1 (A2 (A0 (D0 j5 (A3 ?_))))))))))))
  refine A1 (A9 ?_)
  exact E7 rfl rfl (fun _ _ _ e => e) (Nat.le_refl _)
theorem o104 (b : Bool) (L : List Int) (hL : L.length ≤ 30) (hk : ∀ x ∈ L, (0 ≤ x ∧ x ≤ 1000000000)) {h : Heap} {n : Nat} : V.Open En 104 [.sl false b (L.map iT), .clo 105 []] h n (.bool false) [] n := by
 refine V.Open.of_wp Try.func104 rfl kb ?_
 refine A2 (A0 (C6 j5 (A3 (A1 (A2 (A0 (I8 j5 (rmC j5 (I9 (o128 b L hL hk) rfl rfl rfl rfl rfl rfl ?_)))))))))
 refine rge j6 (fun h => absurd h (by omega)) ?_
 intro h1_3
 refine C6 j5 (A3 (A1 (A9 ?_)))
 exact E7 rfl rfl (fun _ _ _ e => e) (Nat.le_refl _)
theorem s65 (L : List Rq) (Tm : List Int) (b1 b2 : Bool) (hR : Reqs L Tm) : Pure En 65 [.one (.sl b1 (L.map Rq.T)), .one (.sl b2 (Tm.map iT))] [.one (.int .i64 0)] := by
 have hl1 : (L.map Rq.T).length = L.length := List.length_map ..
 have hl2 : (Tm.map iT).length = Tm.length := List.length_map ..
 have hl3 := hR.2.2.1
 have hl4 := hR.2.2.2
 refine Pure.of_wp Try.func65 rfl kb ?_
 refine A2 (A0 (D0 j5 (A3 (A1 (A2 (B3 (A2 (A0 (I8 j5 (AB (s100 b1 L hl3) rfl j5 (C4 j5 (I8 j5 ?_))))))))))))
 refine AB (s101 b2 Tm (by omega)) rfl j5 ?_
 refine C0 (e := false) j6 (C6 j5 (A3 (A1 (wF rfl (A2 (A0 (I8 j5 (H0 rfl rfl rfl j3 ?_))))))))
 refine V4 j6 (fun h => absurd h (by omega)) ?_
 intro h3_2
 refine C4 j5 (I8 j5 (H0 rfl rfl rfl j3 (I8 j5 (H0 rfl rfl rfl j3 ?_))))
 refine rne j6 (fun h => absurd h (by omega)) ?_
 intro h3_8
 refine C0 (e := false) j6 (C6 j5 (A3 (A1 (wF rfl (A2 (A0 (I8 j5 ?_)))))))
 refine I9 (o102 b1 L hl3 (fun x hx => (hR.1 x hx).1)) rfl rfl rfl rfl rfl rfl ?_
 refine C4 j5 (I8 j5 ?_)
 refine I9 (o104 b2 Tm (by omega) (fun x hx => by have := hR.2.1 x hx; omega)) rfl rfl rfl rfl rfl rfl ?_
 refine C0 (e := false) j6 (C6 j5 (A3 (A1 (wF rfl (B0 (B7 (A1 (A2 (A0 (D0 j5 (A3 (A1 ?_))))))))))))
 refine A9 ?_
 exact fin rfl rfl
open Go.V
set_option linter.unusedVariables false
set_option linter.unusedSimpArgs false
set_option maxRecDepth 20000
set_option maxHeartbeats 4000000
section rules
variable {E : Env} {sz : Nat} {ops : Array Oper} {o : Oper} {l : List Oper} {t : Nat → V} {h : Heap} {n : Nat} {R : (Nat → V) → Heap → Nat → Prop} {z : Operand} {bl : List Nat} {pre : List Ef}
theorem dopM {tys : Array TypeId} {f : FuncId} {args : Array Operand} {caps vs : List V} {Φ : V → Heap → Nat → Prop} (hop : OpenM E f vs h n Φ) (ho : o.op = .call { callee := .value z, args := args, argTypes := tys }) {d : Nat} (G0 : E.eval t z = .clo f caps ∧ args.toList.map (E.eval t) ++ caps = vs ∧ o.dst = some d ∧ Nat.blt d sz = true ∧ guardV ops t o = some true)
  (w : ∀ v g m, Φ v g m → Ch h g → n ≤ m → ∀ wr, WD E sz ops bl (⟨false, v, [], true, wr, n, m⟩ :: pre) l (upd t d v) g m R) : WD E sz ops bl pre (o :: l) t h n R := by
 obtain ⟨hc, hv, hdd, hd, hg⟩ := G0
 obtain ⟨a, h1, h2⟩ := hop
 exact dop h2 ho hc hv hdd hd hg (w _ _ _ h1 ⟨_, rfl⟩ h2.le _)
end rules
structure RuS where
 i : Nat
 an : V
 bA : Nat
 m : Nat
 Sl : V
 Ss : V
 W : Nat → V
 g : Heap
structure RuI (L : List Rq) (Tm : List Int) (a : RuS) : Prop where
 il : a.i ≤ L.length
 g0 : a.g 0 = some ⟨[[.int .i64 0, .int .i64 0, .nsl, .nsl]], 4, 35⟩
 T : TabM (runT L Tm a.i).1 1 a.Sl a.Ss a.W a.g a.m
 o1 : ∀ x, OwnT 1 a.Sl a.Ss a.W (runT L Tm a.i).1.lk.length x → 1 ≤ x
 an : (a.i = 0 ∧ a.an = .nsl) ∨ (a.an = .view a.bA 0 a.i ∧ a.g a.bA = some ⟨(runT L Tm a.i).2.map An.V, 4, 60⟩ ∧ (2 ≤ a.bA ∧ a.bA < a.m) ∧ ¬ OwnT 1 a.Sl a.Ss a.W (runT L Tm a.i).1.lk.length a.bA)
 mm : 2 ≤ a.m
theorem s76 : Pure En 76 [] [.agg [.int .i64 0, .int .i64 1, .nsl, .nsl]] := by
 refine Pure.of_wp Try.func76 rfl kb ?_
 refine A2 (A0 (H3 j6 (A3 (A1 (A2 (A0 (L6 (cs := [.int _ _, .int _ _, _, _]) j5 (D4 (u := .agg [.int _ _, .int _ _, _, _]) j3 rfl rfl rfl rfl rfl rfl kb rfl j2 (A3 (A1 (A9 ?_)))))))))))
 exact fin rfl rfl
open Go.V
set_option linter.unusedVariables false
set_option linter.unusedSimpArgs false
set_option maxRecDepth 20000
set_option maxHeartbeats 4000000
theorem o87N (fr nn : Bool) (N : Nat → Bool) (L : List Lk) (s : ByteArray) (hs : Srt L) (hL : L.length ≤ 1048576) {h : Heap} {n : Nat} : V.Open En 87 [.sl fr nn (lksN N L), .str s, .clo 88 []] h n (.tup [.int .i64 (pos s L), .bool (decide (hit s L))]) [] (n + L.length + 1) := by
 have hl : (lksN N L).length = L.length := L3 N L
 refine V.Open.of_wp Try.func87 rfl kb ?_
 refine A2 (A0 (D0 j5 (C6 j5 (A3 (A1 (A2 (A0 (I8 j5 (H0 rfl rfl rfl j3 (D0 j5 (A3 (A1 ?_))))))))))))
 refine A2 (A0 (B6 j5 (D0 j5 (D0 j5 (A3 (A1 (A2 (B3 (F0 ?_)))))))))
 refine E9 (fun (a : Nat × Nat × Nat) => [.sl fr nn (lksN N L), .str s, .clo 88 [], .unk, .unk, .unk, .unk, .unk, .int .i64 (lksN N L).length, .int .i64 a.1, .int .i64 a.2.1]) (fun (a : Nat × Nat × Nat) => h) (fun (a : Nat × Nat × Nat) => a.2.2) (fun (a : Nat × Nat × Nat) => a.1 ≤ a.2.1 ∧ a.2.1 ≤ L.length ∧ (∀ j, j < a.1 → ltS (lnm L j) s) ∧ (∀ j, a.2.1 ≤ j → j < L.length → ¬ ltS (lnm L j) s) ∧ n ≤ a.2.2 ∧ a.2.2 + (a.2.1 - a.1) ≤ n + L.length) (fun (a : Nat × Nat × Nat) => a.2.1 - a.1) (0, (lksN N L).length, n) ?_ ?_ ?_ ?_ ?_
 ·exact ⟨Nat.zero_le _, by dsimp only; omega, W5, fun j h1 h2 => absurd h1 (by dsimp only; omega), Nat.le_refl _, by dsimp only; omega⟩
 ·(repeat first | exact LE.nil _ | refine LE.unk _ _ ?_ | refine LE.eq _ _ _ rfl ?_)
 ·exact LessH.refl _
 ·exact Nat.le_refl _
 intro ⟨lo, hi, m⟩ hI ih
 dsimp only at hI ⊢
 obtain ⟨i1, i2, i3, i4, i5, i6⟩ := hI
 have hmid : (IntKind.u64.wrap ((lo : Int) + hi)).fdiv (2 ^ (min (1 : Int).toNat IntKind.u64.bits)) = (((lo + hi) / 2 : Nat) : Int) := by
  rw [IntKind.wrap_u64, show min (1 : Int).toNat IntKind.u64.bits = 1 from rfl, Int.emod_eq_of_lt (by omega) (by omega), Int.fdiv_eq_ediv_of_nonneg _ (by decide)]
  omega
 have hp1 : lo = hi → pos s L = lo := fun e => T5 (by omega) i3 (fun h2 => i4 lo (by omega) h2)
 refine E8 (A2 (A2 (A0 (B6 j5 (B6 j5 ?_)))))
 refine I6 j6 ?_ ?_ <;> intro h3_2
 ·refine A3 (A1 (wT rfl (B0 (A1 (B3 (A2 (A0 (B6 j5 (B6 j5 (C3 j3 ?_ ?_ j3 ?_))))))))))
  ·exact Q4
  ·exact Q4
  refine rcv j7 (rshr j3 ?_ j3 ?_)
  ·exact Q4
  (refine r0 ((X5 (k' := .i64) rfl rfl rfl rfl).to (v' := .int .i64 (((lo + hi) / 2 : Nat) : Int)) (by rw [hmid, G4 (by omega) (by omega)])) rfl rfl rfl ?_)
  refine D0 j5 (A3 (A1 (A2 (A0 (rmC j5 (I8 j5 (B6 j5 ?_)))))))
  (apply N0 j4; exact Q4; (first | rfl | assumption | (first | exact I2 (B := N) (i := (lo + hi) / 2) (by omega) | exact I2 (B := N) (i := lo) (by omega))); exact j4)
  refine T7 (vs := [.str _, .int _ _, .int _ _, .int _ _, _]) j3 kb j4 (S7 j5 (I9 (o88 (L.getD ((lo + hi) / 2) Lk0) _ P3 s) rfl rfl rfl rfl rfl rfl ?_))
  refine I6 j6 ?_ ?_ <;> intro h5_7
  ·refine A3 (A1 (wT rfl (A0 (B6 j5 (C3 j3 ?_ ?_ j3 ?_)))))
   ·exact Q4
   ·exact Q4
   refine D0 j5 (A3 (B7 (D1 ?_)))
   first
   | (have hx : ltS (lnm L ((lo + hi) / 2)) s := X3.1 h5_7
      exact H4 (ih ((lo + hi) / 2 + 1, hi, m + 1) ⟨by dsimp only; omega, i2, fun j hj => by dsimp only at hj; by_cases e : j = (lo + hi) / 2 <;> first | (rw [e]; exact hx) | exact I7 (hs.lt (j := (lo + hi) / 2) (by omega) (by omega)) hx, i4, by dsimp only; omega, by dsimp only; omega⟩ (by dsimp only; omega)) (by (repeat first | exact LE.nil _ | refine LE.unk _ _ ?_ | refine LE.eq _ _ _ rfl ?_)) (LessH.refl _) (Nat.le_refl _))
   | exact H4 (ih (lo, (lo + hi) / 2, m + 1) ⟨by dsimp only; omega, by dsimp only; omega, i3, fun j hj hj2 e => by
     dsimp only at hj
     refine h5_7 (X3.2 ?_)
     by_cases e2 : j = (lo + hi) / 2
     ·rw [e2] at e; exact e
     ·exact I7 (hs.lt (i := (lo + hi) / 2) (by omega) hj2) e, by dsimp only; omega, by dsimp only; omega⟩ (by dsimp only; omega)) (by (repeat first | exact LE.nil _ | refine LE.unk _ _ ?_ | refine LE.eq _ _ _ rfl ?_)) (LessH.refl _) (Nat.le_refl _)
  ·refine A3 (A1 (wF rfl (A0 (B6 j5 (D0 j5 (A3 (B7 (D1 ?_))))))))
   first
   | (have hx : ltS (lnm L ((lo + hi) / 2)) s := X3.1 h5_7
      exact H4 (ih ((lo + hi) / 2 + 1, hi, m + 1) ⟨by dsimp only; omega, i2, fun j hj => by dsimp only at hj; by_cases e : j = (lo + hi) / 2 <;> first | (rw [e]; exact hx) | exact I7 (hs.lt (j := (lo + hi) / 2) (by omega) (by omega)) hx, i4, by dsimp only; omega, by dsimp only; omega⟩ (by dsimp only; omega)) (by (repeat first | exact LE.nil _ | refine LE.unk _ _ ?_ | refine LE.eq _ _ _ rfl ?_)) (LessH.refl _) (Nat.le_refl _))
   | exact H4 (ih (lo, (lo + hi) / 2, m + 1) ⟨by dsimp only; omega, by dsimp only; omega, i3, fun j hj hj2 e => by
     dsimp only at hj
     refine h5_7 (X3.2 ?_)
     by_cases e2 : j = (lo + hi) / 2
     ·rw [e2] at e; exact e
     ·exact I7 (hs.lt (i := (lo + hi) / 2) (by omega) hj2) e, by dsimp only; omega, by dsimp only; omega⟩ (by dsimp only; omega)) (by (repeat first | exact LE.nil _ | refine LE.unk _ _ ?_ | refine LE.eq _ _ _ rfl ?_)) (LessH.refl _) (Nat.le_refl _)
 ·refine A3 (A1 (wF rfl (E5 (E6 (D7 (C8 (A1 (A2 (A0 (B6 j5 (B6 j5 (B6 j5 ?_))))))))))))
  refine I6 j6 ?_ ?_ <;> intro h8_3
  ·refine C4 j5 (rmC j5 (I8 j5 (B6 j5 ?_)))
   (apply N0 j4; exact Q4; (first | rfl | assumption | (first | exact I2 (B := N) (i := (lo + hi) / 2) (by omega) | exact I2 (B := N) (i := lo) (by omega))); exact j4)
   refine T7 (vs := [.str _, .int _ _, .int _ _, .int _ _, _]) j3 kb j4 (S7 j5 (I9 (o88 (L.getD lo Lk0) _ P3 s) rfl rfl rfl rfl rfl rfl ?_))
   refine H5 j6 ?_ ?_ <;> intro h8_12
   ·refine C0 (e := true) j6 (D0 j5 (C6 j5 (A3 (A1 (A9 ?_)))))
    have e : lo = hi := (by omega); have hp1 := hp1 e; exact Q19
   ·refine C0 (e := false) j6 (D0 j5 (C6 j5 (A3 (A1 (A9 ?_)))))
    have e : lo = hi := (by omega); have hp1 := hp1 e; exact Q19
  ·refine C4 j5 (A4 j3 (A4 j3 (A4 j3 (A4 j3 (A4 j3 (A4 j3 (A4 j3 (A4 j3 (C0 (e := false) j6 (D0 j5 (C6 j5 (A3 ?_))))))))))))
   refine A1 (A9 ?_)
   have e : lo = hi := (by omega); have hp1 := hp1 e; exact Q19
theorem o48N (tm nx : Int) (n1 : Bool) (N : Nat → Bool) (L : List Lk) (Ss : V) (s : ByteArray) (hs : Srt L) (hL : L.length ≤ 1048576) {id : Nat} {h : Heap} {n : Nat} (hid : id < n) (hh : h id = some ⟨[[.int .i64 tm, .int .i64 nx, .sl false n1 (lksN N L), Ss]], 4, 35⟩) : V.Open En 48 [.ptr id 0 0, .str s] h n (.tup [.int .i64 (pos s L), .bool (decide (hit s L))]) [] (n + L.length + 1) := by
 refine V.Open.of_wp Try.func48 rfl kb ?_
 refine A2 (A0 (D0 j5 (C6 j5 (A3 (A1 (A2 (A0 (D9 j5 (F6 (v := .ptr _ _ _) j6 (C1 (off := 2) (s := 1) (r := false) j3 kz j3 ?_))))))))))
 (apply C5 (v := .sl _ _ _) j2; exact Q0; rfl; exact j5)
 refine S7 j5 (I9 (o87N false n1 N L s hs hL) rfl rfl rfl rfl rfl rfl (T6 j6 ?_))
 refine rexB j6 ?_ ?_ <;> intro h1_7
 ·refine D0 j5 (C6 j5 (A3 (A1 (A9 ?_))))
  first | (rw [h1_7]; exact E7 rfl rfl (fun _ _ _ e => e) (Nat.le_refl _)) | (rw [h1_7]; exact E7 rfl rfl (fun _ _ _ e => e) (Nat.le_refl _))
 ·refine D0 j5 (C6 j5 (A3 (A1 (A9 ?_))))
  first | (rw [h1_7]; exact E7 rfl rfl (fun _ _ _ e => e) (Nat.le_refl _)) | (rw [h1_7]; exact E7 rfl rfl (fun _ _ _ e => e) (Nat.le_refl _))
theorem o48Nh (tm nx : Int) (N : Nat → Bool) (L : List Lk) (Ss : V) (s : ByteArray) (hs : Srt L) (hL : L.length ≤ 1048576) (hh : hit s L) {id : Nat} {h : Heap} {n : Nat} (hid : id < n) (k : h id = some ⟨[[.int .i64 tm, .int .i64 nx, .sl false true (lksN N L), Ss]], 4, 35⟩) :
  V.Open En 48 [.ptr id 0 0, .str s] h n (.tup [.int .i64 (pos s L), .bool true]) [] (n + L.length + 1) := by
 have := o48N tm nx true N L Ss s hs hL hid k
 rwa [decide_eq_true hh] at this
theorem p12N (t : Tb) (x : Nl) (hN : NilM t x) (s : ByteArray) (hs : ¬ s.size > 65536) (hok : t.OK) (hh : hit s t.lk) : Pure En 12 [.agg (t.M x), .one (.str s)] [.agg ((t.lk.getD (pos s t.lk) Lk0).T false), .one (.int .i64 0)] := by
 obtain ⟨N, b1, b2⟩ := x
 obtain rfl : b1 = true := by
  cases b1
  ·have := hN.l rfl; have q := hh.1; rw [this] at q; exact absurd q (Nat.not_lt_zero _)
  ·rfl
 refine Pure.of_wp Try.func12 rfl kb ?_
 refine A2 (A0 ?_)
 (refine L7 (u := .agg [.int .i64 t.tm, .int .i64 t.nx, .sl false true (lksN N t.lk), T.toV false (nlT b2 (t.sn.map Sn.T))]) j3 (by show ((T.toV false (nlT b2 (t.sn.map Sn.T))).cell && true) = true; rw [P3]; rfl) j3 ?_)
 refine H3 j6 (D0 j5 (A3 (A1 (A2 (B3 (A2 (A0 (S7 j5 (S8 (es := [[.str _]]) j4 kz kb rfl rfl j3 ?_)))))))))
 apply rclSP [0 + 1 + 1] (s47 s) rfl j2
 ·exact SnapL.cons _ _ _ _ (.one _ _ (H7 [[.str s]] (List.mem_singleton.2 rfl) (by exact Q0) rfl rfl)) SnapL.nil
 ·rfl
 ·rfl
 ·rfl
 all_goals intro h1_2
 ·refine C6 j5 (A3 (A1 (wT rfl (A2 ?_))))
  exact absurd (by assumption) hs
 ·refine C6 j5 (A3 (A1 (wF rfl (A2 (A0 ?_)))))
  (apply F9 (vs := [.int _ _, .int _ _, _, _]) j2; exact Q0; exact C7; rfl; exact kb; rfl; exact j3)
  apply rclSP [] (Pure.ofN hN (p23 t false false false)) rfl j2
  ·exact (SnapL.cons _ _ _ _ (SnapC.agg (.cons _ _ _ _ (.int _ _) (.cons _ _ _ _ (.int _ _) (.cons _ _ _ _ (.sl _ _ _ (fun h => by cases h)) (.cons _ _ _ _ (snapT _ (fun h => by cases h)) .nil))))) SnapL.nil)
  ·rfl
  ·rfl
  ·rfl
  all_goals intro h3_1
  ·refine D5 (c := true) j5 (C6 j5 (A3 (A1 (wF rfl (B0 (B7 (A1 (A2 (A0 (S7 j5 ?_))))))))))
   refine I9 (o48Nh t.tm t.nx N t.lk (T.toV false (nlT b2 (t.sn.map Sn.T))) s hok.srt (by have := hok.2.2.1; omega) hh ?_ ?_) rfl rfl rfl rfl rfl rfl ?_
   ·(first | omega | assumption | exact Q0)
   ·(first | omega | assumption | exact Q0)
   refine rmT j5 (T6 j6 (T6 j6 (D0 j5 (C6 j5 (A3 (A1 (A2 (A2 (A0 (C4 j5 (D5 (c := true) j5 (A3 ?_))))))))))))
   refine A1 (wF rfl (B0 (A1 (A2 (A0 ?_)))))
   (apply F9 (vs := [.int _ _, .int _ _, _, _]) j2; exact Q0; exact C7; rfl; exact kb; rfl; exact j3)
   refine K9 (o49N t N true b2 false hN (by have := hok.2.2.1; omega) (fun i hi => by have := OKw hok hi; omega) (by have := hok.2.2.2.1; omega)) rfl j5 ?_
   rintro _ g1 m1 ⟨Sl1, Ss1, W1, rfl, TV, fr1, le1⟩ hc1 hl1
   have hp := hh.1
   obtain ⟨lb, rfl, kl⟩ : ∃ lb, Sl1 = .view lb 0 (rwW t.lk W1).length ∧ g1 lb = some ⟨rwW t.lk W1, 5, 29⟩ := by
    rcases TV.kl with ⟨_, hz⟩ | ⟨lb, e, k⟩
    ·have q := congrArg List.length hz; rw [B5] at q; exact absurd hp (by rw [q]; exact Nat.not_lt_zero _)
    ·exact ⟨lb, e, k⟩
   have kw := TV.kw _ hp
   have kwc := kw.cell
   have hrow : (rwW t.lk W1)[pos s t.lk]? = some [.str (t.lk.getD (pos s t.lk) Lk0).nm, .int .i64 (t.lk.getD (pos s t.lk) Lk0).tk, .int .i64 (t.lk.getD (pos s t.lk) Lk0).hd, .int .i64 (t.lk.getD (pos s t.lk) Lk0).ex, W1 (pos s t.lk)] := F4 hp
   have hln := B5 t.lk W1
   have g04 : g1 (0 + 1) = some ⟨[[.str ⟨#[]⟩, .int .i64 0, .int .i64 0, .int .i64 0, .nsl]], 5, 29⟩ := by rw [fr1 (0 + 1) (by omega)]; exact Q0
   refine rfd  j4 kb j3 (B6 j5 ?_)
   (refine r0 ((B9 (b := ⟨rwW t.lk W1, 5, 29⟩) rfl rfl rfl rfl (by exact Q0) rfl (by omega) (by omega)).to (v' := .ptr lb (pos s t.lk) 0) (by rw [F7])) rfl rfl rfl ?_)
   (apply F9 (vs := [.str (t.lk.getD (pos s t.lk) Lk0).nm, .int .i64 (t.lk.getD (pos s t.lk) Lk0).tk, .int .i64 (t.lk.getD (pos s t.lk) Lk0).hd, .int .i64 (t.lk.getD (pos s t.lk) Lk0).ex, W1 (pos s t.lk)]) j2; exact Q0; exact hrow; rfl; exact kb; rfl; exact j3)
   (apply D4 (u := .agg [.str _, .int _ _, .int _ _, .int _ _, _]) j3; exact Q0; exact C7; rfl; rfl; rfl; (first | rfl | (show ((W1 (pos s t.lk)).cell && true) = true; rw [kwc]; rfl)); exact kb; rfl; exact j2)
   refine D0 j5 (A3 (A1 (A9 (P9 (tabIds (.view lb 0 (rwW t.lk W1).length) Ss1 W1 t.lk.length) (A5 (A7 rfl (by exact Q0) j2 kb rfl) (A5 rfl A8)) ?_))))
   exact SnapL.cons _ _ _ _ (SnapC.agg (.cons _ _ _ _ (.str _) (.cons _ _ _ _ (.int _ _) (.cons _ _ _ _ (.int _ _) (.cons _ _ _ _ (.int _ _) (.cons _ _ _ _ (D3 (kw.mono (fun a ha => by have := TV.fw _ a hp ha; (simp (disch := (first | omega | assumption)) only [↓appC, ↓updN, ↓updS, ↓app0]))) (fun a ha => X1 hp ha)) .nil)))))) (SnapL.cons _ _ _ _ (.one _ _ (.int _ _)) SnapL.nil)
  ·refine D5 (c := false) j5 (C6 j5 (A3 (A1 (wT rfl (A2 ?_)))))
   exact absurd hok (by assumption)
open Go.V
set_option linter.unusedVariables false
set_option linter.unusedSimpArgs false
set_option maxRecDepth 20000
set_option maxHeartbeats 4000000
def Kp (r : Rq) (l l2 : Lk) : Prop := l2.nm = l.nm ∧ l.tk ≤ l2.tk ∧ (l.hd ≠ -1 → (l2.tk = l.tk ∧ l2.hd = l.hd) ∨ (r.kd = 2 ∧ r.cl = l.hd ∧ r.nm = l.nm))
def KpL (r : Rq) (A B : List Lk) : Prop := ∀ l ∈ A, ∃ l2 ∈ B, Kp r l l2
theorem Kp.refl (r : Rq) (l : Lk) : Kp r l l := ⟨rfl, Int.le_refl _, fun _ => .inl ⟨rfl, rfl⟩⟩
theorem KpL.refl (r : Rq) (A : List Lk) : KpL r A A := fun l h => ⟨l, h, .refl r l⟩
theorem KpL.set {r : Rq} {L : List Lk} {k : Nat} {l1 : Lk} (hk : k < L.length) (h : Kp r (L.getD k Lk0) l1) : KpL r L (L.set k l1) := fun l hl => by
 obtain ⟨i, hi, rfl⟩ := List.getElem_of_mem hl
 by_cases e : i = k
 ·subst e
  refine ⟨l1, List.mem_iff_getElem.2 ⟨i, by rw [List.length_set]; exact hi, by simp⟩, ?_⟩
  rwa [List.getD_eq_getElem?_getD, List.getElem?_eq_getElem hi] at h
 ·exact ⟨L[i], List.mem_iff_getElem.2 ⟨i, by rw [List.length_set]; exact hi, by simp [List.getElem_set_ne (Ne.symm e)]⟩, .refl _ _⟩
theorem KpL.ins {r : Rq} {L : List Lk} {k : Nat} {l1 : Lk} : KpL r L (insL L k l1) := fun l hl => by
 refine ⟨l, ?_, .refl _ _⟩
 unfold insL
 rw [← List.take_append_drop k L] at hl
 rcases List.mem_append.1 hl with h | h
 ·exact List.mem_append_left _ h
 ·exact List.mem_append_right _ (List.mem_cons_of_mem _ h)
theorem frL_tk {tm nx : Int} {l : Lk} (h : l.tk ≤ nx) : l.tk ≤ (frL tm nx l).tk := by
 unfold frL
 split
 ·exact Int.le_refl _
 ·exact h
theorem doT_kp {t : Tb} {r : Rq} (h : LR t) (hr : r.OK) : KpL r t.lk (doT t r).1.lk := by
 have hkd := hr.2.2.1
 unfold doT
 by_cases k1 : r.kd = 1
 ·rw [if_pos k1]
  unfold acqT
  by_cases hh : hit r.nm t.lk
  ·rw [if_pos hh]
   have hk := hh.1
   have hl := h.ok _ hk
   unfold acqL
   split
   ·exact .refl _ _
   ·split
    ·next c2 => exact .set hk ⟨rfl, by have := hl.2.1.2; show _ ≤ t.nx; omega, fun e => absurd c2 e⟩
    ·split
     ·exact .refl _ _
     ·exact .set hk ⟨rfl, Int.le_refl _, fun _ => .inl ⟨rfl, rfl⟩⟩
  ·rw [if_neg hh]
   split
   ·exact .refl _ _
   ·exact .ins
 ·rw [if_neg k1]
  by_cases hh : hit r.nm t.lk
  ·rw [if_pos hh]
   have hk := hh.1
   have hl := h.ok _ hk
   have hnm : (t.lk.getD (pos r.nm t.lk) Lk0).nm = r.nm := hh.2
   unfold doL
   split
   ·exact .set hk ⟨rfl, Int.le_refl _, fun _ => .inl ⟨rfl, rfl⟩⟩
   ·split
    ·exact .refl _ _
    ·split
     ·exact .refl _ _
     ·next c3 =>
      split
      ·exact .set hk ⟨rfl, Int.le_refl _, fun _ => .inl ⟨rfl, rfl⟩⟩
      ·next c4 =>
       refine .set hk ⟨by rw [frL_nm], frL_tk (by have := hl.2.1.2; omega), fun _ => .inr ⟨by omega, by omega, hnm.symm⟩⟩
  ·rw [if_neg hh]; exact .refl _ _
theorem rqT_kp {t : Tb} {now : Int} {r : Rq} (ht : t.OK) (hr : r.OK) (hn : 0 ≤ now ∧ now ≤ 1000000000) : ∀ l ∈ t.lk, ∃ l2 ∈ (rqT t now r).1.lk, l2.nm = l.nm ∧ l.tk ≤ l2.tk ∧ (l.hd ≠ -1 → (l2.tk = l.tk ∧ l2.hd = l.hd) ∨ l.ex ≤ max t.tm now ∨ (r.kd = 2 ∧ r.cl = l.hd ∧ r.nm = l.nm)) := fun l hl => by
 have hL := LR.ex ht hn
 have hq : KpL r (exT t now).lk (rqT t now r).1.lk := by
  unfold rqT reqT
  split
  ·exact .refl _ _
  ·split
   ·exact .refl _ _
   ·split
    ·exact .refl _ _
    ·exact doT_kp hL hr
 obtain ⟨i, hi, rfl⟩ := List.getElem_of_mem hl
 have hg : t.lk.getD i Lk0 = t.lk[i] := by rw [List.getD_eq_getElem?_getD, List.getElem?_eq_getElem hi]; rfl
 have he : exF (max t.tm now) (nxL (max t.tm now) t.nx (t.lk.take i)) t.lk[i] ∈ (exT t now).lk := by
  show _ ∈ exL (max t.tm now) t.nx t.lk
  rw [← hg, ← L2 hi, List.getD_eq_getElem?_getD, List.getElem?_eq_getElem (by rw [N3]; exact hi)]
  exact List.getElem_mem _
 have hnx := (BI (tm := max t.tm now) (nx := t.nx) (L := t.lk) i).1
 have htk := (ht.2.2.2.2.1 i hi).1.2.1.2
 rw [hg] at htk
 obtain ⟨l2, h1, h2, h3, h4⟩ := hq _ he
 by_cases hgn : gone (max t.tm now) t.lk[i]
 ·rw [exF_fr hgn] at h2 h3
  exact ⟨l2, h1, by rw [h2, frL_nm], Int.le_trans (frL_tk (by omega)) h3, fun _ => .inr (.inl hgn.2)⟩
 ·have e : exF (max t.tm now) (nxL (max t.tm now) t.nx (t.lk.take i)) t.lk[i] = t.lk[i] := if_neg hgn
  rw [e] at h2 h3 h4
  exact ⟨l2, h1, h2, h3, fun q => (h4 q).imp (fun x => x) .inr⟩
theorem rqT_at {t : Tb} {now : Int} {r : Rq} (ht : t.OK) (hr : r.OK) (hn : 0 ≤ now ∧ now ≤ 1000000000) (hx : t.nx ≤ 999900) {i : Nat} (hi : i < t.lk.length) : hit (t.lk.getD i Lk0).nm (rqT t now r).1.lk ∧ (t.lk.getD i Lk0).tk ≤ ((rqT t now r).1.lk.getD (pos (t.lk.getD i Lk0).nm (rqT t now r).1.lk) Lk0).tk ∧
  ((t.lk.getD i Lk0).hd ≠ -1 → (((rqT t now r).1.lk.getD (pos (t.lk.getD i Lk0).nm (rqT t now r).1.lk) Lk0).tk = (t.lk.getD i Lk0).tk ∧ ((rqT t now r).1.lk.getD (pos (t.lk.getD i Lk0).nm (rqT t now r).1.lk) Lk0).hd = (t.lk.getD i Lk0).hd) ∨ (t.lk.getD i Lk0).ex ≤ (rqT t now r).1.tm ∨ (r.kd = 2 ∧ r.cl = (t.lk.getD i Lk0).hd ∧ r.nm = (t.lk.getD i Lk0).nm)) := by
 have hg : t.lk.getD i Lk0 ∈ t.lk := by rw [List.getD_eq_getElem?_getD, List.getElem?_eq_getElem hi]; exact List.getElem_mem _
 obtain ⟨l2, h1, h2, h3, h4⟩ := rqT_kp ht hr hn _ hg
 have hq := BJ ht hr hn hx
 obtain ⟨j, hj, rfl⟩ := List.getElem_of_mem h1
 have e : (rqT t now r).1.lk.getD j Lk0 = (rqT t now r).1.lk[j] := by rw [List.getD_eq_getElem?_getD, List.getElem?_eq_getElem hj]; rfl
 have hs : Srt (rqT t now r).1.lk := (hq.OK (by omega)).srt
 obtain ⟨k1, k2⟩ := hit_of hs hj (s := (t.lk.getD i Lk0).nm) (by unfold lnm; rw [e]; exact h2)
 rw [k1, e, hq.tm]
 exact ⟨k2, h3, h4⟩
end Go.Proofs.Ytknnniaoboaghaa
