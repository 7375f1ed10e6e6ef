import Derived.Test.YtknnniaoboaghaaL7
namespace Go.Proofs.Ytknnniaoboaghaa
open Go.V
set_option linter.unusedVariables false
set_option linter.unusedSimpArgs false
set_option maxRecDepth 20000
set_option maxHeartbeats 4000000
theorem lrow (L : List Lk) (W : Nat → V) (i : Nat) : (((L.getD (0 + (i : Int).toNat) Lk0).V (W (0 + (i : Int).toNat))).drop 0).take 5 = (L.getD i Lk0).V (W i) := by
 rw [Nat.zero_add, Int.toNat_natCast]; rfl
theorem srow (L : List Sn) (i : Nat) : ((Sn.V (L.getD (0 + (i : Int).toNat) Sn0)).drop 0).take 6 = Sn.V (L.getD i Sn0) := by
 rw [Nat.zero_add, Int.toNat_natCast]; rfl
def scl (L : List Sn) (i : Nat) : Int := (L.getD i Sn0).cl
def SrtS (L : List Sn) : Prop := ∀ i, 0 < i → i < L.length → scl L (i - 1) < scl L i
theorem SrtS.lt {L : List Sn} (hs : SrtS L) {i : Nat} : ∀ {j : Nat}, i < j → j < L.length → scl L i < scl L j
 | 0, h, _ => absurd h (Nat.not_lt_zero _)
 | j + 1, h, hj => by
  have h1 := hs (j + 1) (Nat.succ_pos _) hj
  by_cases e : i = j
  ·subst e; exact h1
  ·have := hs.lt (i := i) (j := j) (by omega) (by omega)
   simp only [Nat.add_sub_cancel] at h1
   omega
theorem snP_le (c : Int) : ∀ L : List Sn, snP c L ≤ L.length
 | [] => Nat.le_refl _
 | s :: r => by
  have := snP_le c r
  unfold snP
  split <;> simp <;> omega
theorem Z8 {c : Int} : ∀ {L : List Sn} {p : Nat}, p ≤ L.length → (∀ j, j < p → scl L j < c) → (p < L.length → ¬ scl L p < c) → snP c L = p
 | [], p, h, _, _ => by simp at h; subst h; rfl
 | s :: r, 0, _, _, h2 => by
  unfold snP
  rw [if_neg]
  simpa [scl] using h2 (by simp)
 | s :: r, p + 1, h, h1, h2 => by
  unfold snP
  have h0 : s.cl < c := by simpa [scl] using h1 0 (Nat.succ_pos _)
  rw [if_pos h0, Z8 (L := r) (p := p) (by simpa using h) (fun j hj => by simpa [scl] using h1 (j + 1) (by omega)) (fun hp => by simpa [scl] using h2 (by simpa using hp))]
theorem Tb.OK.srtS {t : Tb} (h : t.OK) : SrtS t.sn := fun i h0 h1 => (h.2.2.2.2.2 i h1).2 h0
theorem p109 (s : Sn) (c : Int) (h : -1000 ≤ s.cl ∧ s.cl ≤ 1000 ∧ -1000 ≤ c ∧ c ≤ 1000) : Pure En 109 [.agg s.T, .one (.int .i64 c)] [.one (.int .i64 (s.cl - c))] := by
 refine Pure.of_wp Try.func109 rfl kb ?_
 refine A2 (A0 (K7 (u := .agg [.int _ _, .int _ _, .int _ _, .int _ _, .int _ _, .int _ _]) j3 rfl j3 (D1 j5 (A3 (A1 (A2 (A0 (C2 (off := 0) (s := 1) (r := false) j3 kz j3 ?_))))))))
 (apply C6 (v := .int _ _) j2; exact Q0; rfl; exact j5)
 refine B5 j5 (N6 j3 ?_ ?_ j3 ?_)
 ·omega
 ·omega
 refine D1 j5 (A3 (A1 (B1 ?_)))
 exact fin rfl rfl
theorem o87w (L : List Lk) (W : Nat → V) (hW : ∀ i, i < L.length → (W i).cell = true) (s : ByteArray) (hs : Srt L) (hL : L.length ≤ 1048576) {lb : Nat} {h : Heap} {n : Nat} (hlb : lb < n) (k1 : h lb = some ⟨rwW L W, 5, 29⟩) : V.Open En 87 [.view lb 0 L.length, .str s, .clo 88 []] h n (.tup [.int .i64 (pos s L), .bool (decide (hit s L))]) [] (n + L.length + 1) := by
 refine V.Open.of_wp Try.func87 rfl kb ?_
 refine A2 (A0 (D1 j5 (C3 j5 (A3 (A1 (A2 (A0 (J6 j5 (G7 rfl rfl rfl j3 (D1 j5 (A3 (A1 ?_))))))))))))
 refine A2 (A0 (B5 j5 (D1 j5 (D1 j5 (A3 (A1 (A2 (B4 (F0 ?_)))))))))
 refine E4 (fun (a : Nat × Nat × Nat) => [.view lb 0 L.length, .str s, .clo 88 [], .unk, .unk, .unk, .unk, .unk, .int .i64 L.length, .int .i64 a.1, .int .i64 a.2.1]) (fun (a : Nat × Nat × Nat) => h) (fun (a : Nat × Nat × Nat) => a.2.2) (fun (a : Nat × Nat × Nat) => a.1 ≤ a.2.1 ∧ a.2.1 ≤ L.length ∧ (∀ j, j < a.1 → ltS (lnm L j) s) ∧ (∀ j, a.2.1 ≤ j → j < L.length → ¬ ltS (lnm L j) s) ∧ n ≤ a.2.2 ∧ a.2.2 + (a.2.1 - a.1) ≤ n + L.length) (fun (a : Nat × Nat × Nat) => a.2.1 - a.1) (0, L.length, n) ?_ ?_ ?_ ?_ ?_
 ·exact ⟨Nat.zero_le _, by dsimp only; omega, N1, fun j h1 h2 => absurd h1 (by dsimp only; omega), Nat.le_refl _, by dsimp only; omega⟩
 ·(repeat first | exact LE.nil _ | refine LE.unk _ _ ?_ | refine LE.eq _ _ _ rfl ?_)
 ·exact LessH.refl _
 ·exact Nat.le_refl _
 intro ⟨lo, hi, m⟩ hI ih
 dsimp only at hI ⊢
 obtain ⟨i1, i2, i3, i4, i5, i6⟩ := hI
 have hmid : (IntKind.u64.wrap ((lo : Int) + hi)).fdiv (2 ^ (min (1 : Int).toNat IntKind.u64.bits)) = (((lo + hi) / 2 : Nat) : Int) := by
  rw [IntKind.wrap_u64, show min (1 : Int).toNat IntKind.u64.bits = 1 from rfl, Int.emod_eq_of_lt (by omega) (by omega), Int.fdiv_eq_ediv_of_nonneg _ (by decide)]
  omega
 have hp1 : lo = hi → pos s L = lo := fun e => U4 (by omega) i3 (fun h2 => i4 lo (by omega) h2)
 refine E8 (A2 (A2 (A0 (B5 j5 (B5 j5 ?_)))))
 refine H9 j6 ?_ ?_ <;> intro h3_2
 ·refine A3 (A1 (wT rfl (B2 (A1 (B4 (A2 (A0 (B5 j5 (B5 j5 (D0 j3 ?_ ?_ j3 ?_))))))))))
  ·exact Q4
  ·exact Q4
  refine rcv j7 (rshr j3 ?_ j3 ?_)
  ·exact Q4
  (refine r0 ((V6 (k' := .i64) rfl rfl rfl rfl).to (v' := .int .i64 (((lo + hi) / 2 : Nat) : Int)) (by rw [hmid, G6 (by omega) (by omega)])) rfl rfl rfl ?_)
  refine D1 j5 (A3 (A1 (A2 (A0 (rmC j5 (J6 j5 (B5 j5 ?_)))))))
  (apply U0 j4; exact Q0; rfl; exact Q4; exact Q4; exact j3)
  (apply F7 (vs := (L.getD ((lo + hi) / 2) Lk0).V (W ((lo + hi) / 2))) j2; exact Q0; exact G5 (show 0 + (((((lo + hi) / 2) : Nat)) : Int).toNat < L.length by omega); rfl; exact kb; exact lrow L W _; exact j3)
  refine T7 j5 (I7 (o88 (L.getD ((lo + hi) / 2) Lk0) _ (hW _ (by omega)) s) rfl rfl rfl rfl rfl rfl ?_)
  refine H9 j6 ?_ ?_ <;> intro h5_7
  ·refine A3 (A1 (wT rfl (A0 (B5 j5 (D0 j3 ?_ ?_ j3 ?_)))))
   ·exact Q4
   ·exact Q4
   refine D1 j5 (A3 (C0 (E3 ?_)))
   first
   |(have hx : ltS (lnm L ((lo + hi) / 2)) s := Y3.1 h5_7
     exact I4 (ih ((lo + hi) / 2 + 1, hi, m + 1) ⟨by dsimp only; omega, i2, fun j hj => by dsimp only at hj; by_cases e : j = (lo + hi) / 2 <;> first | (rw [e]; exact hx) | exact I5 (hs.lt (j := (lo + hi) / 2) (by omega) (by omega)) hx, i4, by dsimp only; omega, by dsimp only; omega⟩ (by dsimp only; omega)) (by (repeat first | exact LE.nil _ | refine LE.unk _ _ ?_ | refine LE.eq _ _ _ rfl ?_)) (LessH.refl _) (Nat.le_refl _))
   | exact I4 (ih (lo, (lo + hi) / 2, m + 1) ⟨by dsimp only; omega, by dsimp only; omega, i3, fun j hj hj2 e => by
     dsimp only at hj
     refine h5_7 (Y3.2 ?_)
     by_cases e2 : j = (lo + hi) / 2
     ·rw [e2] at e; exact e
     ·exact I5 (hs.lt (i := (lo + hi) / 2) (by omega) hj2) e, by dsimp only; omega, by dsimp only; omega⟩ (by dsimp only; omega)) (by (repeat first | exact LE.nil _ | refine LE.unk _ _ ?_ | refine LE.eq _ _ _ rfl ?_)) (LessH.refl _) (Nat.le_refl _)
  ·refine A3 (A1 (wF rfl (A0 (B5 j5 (D1 j5 (A3 (C0 (E3 ?_))))))))
   first
   |(have hx : ltS (lnm L ((lo + hi) / 2)) s := Y3.1 h5_7
     exact I4 (ih ((lo + hi) / 2 + 1, hi, m + 1) ⟨by dsimp only; omega, i2, fun j hj => by dsimp only at hj; by_cases e : j = (lo + hi) / 2 <;> first | (rw [e]; exact hx) | exact I5 (hs.lt (j := (lo + hi) / 2) (by omega) (by omega)) hx, i4, by dsimp only; omega, by dsimp only; omega⟩ (by dsimp only; omega)) (by (repeat first | exact LE.nil _ | refine LE.unk _ _ ?_ | refine LE.eq _ _ _ rfl ?_)) (LessH.refl _) (Nat.le_refl _))
   | exact I4 (ih (lo, (lo + hi) / 2, m + 1) ⟨by dsimp only; omega, by dsimp only; omega, i3, fun j hj hj2 e => by
     dsimp only at hj
     refine h5_7 (Y3.2 ?_)
     by_cases e2 : j = (lo + hi) / 2
     ·rw [e2] at e; exact e
     ·exact I5 (hs.lt (i := (lo + hi) / 2) (by omega) hj2) e, by dsimp only; omega, by dsimp only; omega⟩ (by dsimp only; omega)) (by (repeat first | exact LE.nil _ | refine LE.unk _ _ ?_ | refine LE.eq _ _ _ rfl ?_)) (LessH.refl _) (Nat.le_refl _)
 ·refine A3 (A1 (wF rfl (E5 (E6 (D2 (C5 (A1 (A2 (A0 (B5 j5 (B5 j5 (B5 j5 ?_))))))))))))
  refine H9 j6 ?_ ?_ <;> intro h8_3
  ·refine C7 j5 (rmC j5 (J6 j5 (B5 j5 ?_)))
   (apply U0 j4; exact Q0; rfl; exact Q4; exact Q4; exact j3)
   (apply F7 (vs := (L.getD lo Lk0).V (W lo)) j2; exact Q0; exact G5 (show 0 + (((lo : Nat)) : Int).toNat < L.length by omega); rfl; exact kb; exact lrow L W _; exact j3)
   refine T7 j5 (I7 (o88 (L.getD lo Lk0) _ (hW _ (by omega)) s) rfl rfl rfl rfl rfl rfl ?_)
   refine H5 j6 ?_ ?_ <;> intro h8_12
   ·refine B7 (e := true) j6 (D1 j5 (C3 j5 (A3 (A1 (B1 ?_)))))
    have e : lo = hi := (by omega); have hp1 := hp1 e; exact Q24
   ·refine B7 (e := false) j6 (D1 j5 (C3 j5 (A3 (A1 (B1 ?_)))))
    have e : lo = hi := (by omega); have hp1 := hp1 e; exact Q24
  ·refine C7 j5 (A4 j3 (A4 j3 (A4 j3 (A4 j3 (A4 j3 (A4 j3 (A4 j3 (A4 j3 (B7 (e := false) j6 (D1 j5 (C3 j5 (A3 ?_))))))))))))
   refine A1 (B1 ?_)
   have e : lo = hi := (by omega); have hp1 := hp1 e; exact Q24
theorem o87n (s : ByteArray) {h : Heap} {n : Nat} : V.Open En 87 [.nsl, .str s, .clo 88 []] h n (.tup [.int .i64 0, .bool false]) [] n := by
 refine V.Open.of_wp Try.func87 rfl kb ?_
 refine A2 (A0 (D1 j5 (C3 j5 (A3 (A1 (A2 (A0 (rmN j5 (G7 rfl rfl rfl j3 (D1 j5 (A3 (A1 ?_))))))))))))
 refine A2 (A0 (B5 j5 (D1 j5 (D1 j5 (A3 (A1 (A2 (B4 (F0 (E8 (A2 (A2 ?_))))))))))))
 refine A0 (B5 j5 (B5 j5 ?_))
 refine H9 j6 (fun h => absurd h (by decide)) ?_
 intro h3_2
 refine A3 (A1 (wF rfl (E5 (E6 (D2 (C5 (A1 (A2 (A0 (B5 j5 (B5 j5 (B5 j5 ?_))))))))))))
 refine H9 j6 (fun h => absurd h (by decide)) ?_
 intro h8_3
 refine C7 j5 (A4 j3 (A4 j3 (A4 j3 (A4 j3 (A4 j3 (A4 j3 (A4 j3 (A4 j3 (B7 (e := false) j6 (D1 j5 (C3 j5 (A3 ?_))))))))))))
 refine A1 (B1 ?_)
 exact F2 rfl rfl (fun _ _ _ e => e) (Nat.le_refl _)
theorem o87z {L : List Lk} {W : Nat → V} (hW : ∀ i, i < L.length → (W i).cell = true) (s : ByteArray) (hs : Srt L) (hL : L.length ≤ 1048576) {Sl : V} {h : Heap} {n : Nat} (hn : ∀ a, fpV Sl = some a → a < n) (k : IsZ h Sl (rwW L W) 5 29) :
  V.Open En 87 [Sl, .str s, .clo 88 []] h n (.tup [.int .i64 (pos s L), .bool (decide (hit s L))]) [] (n + L.length + 1) := by
 rcases k with ⟨rfl, k⟩ | ⟨lb, rfl, k⟩
 ·have hl : L.length = 0 := by have := congrArg List.length k; rw [B6] at this; exact this
  have : L = [] := List.eq_nil_of_length_eq_zero hl
  subst this
  rw [decide_eq_false (fun e : hit s [] => Nat.not_lt_zero _ e.1)]
  exact V.Open.weakN (o87n s) (by simp)
 ·rw [B6]; exact o87w L W hW s hs hL (hn lb rfl) k
theorem o48y (t : Tb) (W : Nat → V) (s : ByteArray) (hs : Srt t.lk) (hL : t.lk.length ≤ 1000) (hh :  hit s t.lk) {id : Nat} {Sl Ss : V} {h : Heap} {n : Nat} (T : TabM t id Sl Ss W h n) : V.Open En 48 [.ptr id 0 0, .str s] h n (.tup [.int .i64 (pos s t.lk), .bool true]) [] (n + t.lk.length + 1) := by
 have hf := o87z (fun i hi => (T.kw i hi).cell) s hs (by omega) (fun a ha => (T.fl a ha).1) T.kl
 rw [decide_eq_true hh] at hf
 have kc := T.kl.cell
 refine V.Open.of_wp Try.func48 rfl kb ?_
 refine A2 (A0 (D1 j5 (C3 j5 (A3 (A1 (A2 (A0 (D9 j5 (F8 (v := .ptr _ _ _) j6 (C2 (off := 2) (s := 1) (r := false) j3 kz j3 ?_))))))))))
 (apply C6 (v := Sl) j2; exact T.kid; rfl; exact j5)
 refine T7 j5 (I7 hf rfl rfl rfl rfl rfl rfl (T8 j6 (T8 j6 (D1 j5 (C3 j5 (A3 (A1 (B1 ?_))))))))
 exact F2 rfl rfl (fun _ _ _ e => e) (Nat.le_refl _)
theorem o48x (t : Tb) (W : Nat → V) (s : ByteArray) (hs : Srt t.lk) (hL : t.lk.length ≤ 1000) (hh : ¬ hit s t.lk) {id : Nat} {Sl Ss : V} {h : Heap} {n : Nat} (T : TabM t id Sl Ss W h n) : V.Open En 48 [.ptr id 0 0, .str s] h n (.tup [.int .i64 (pos s t.lk), .bool false]) [] (n + t.lk.length + 1) := by
 have hf := o87z (fun i hi => (T.kw i hi).cell) s hs (by omega) (fun a ha => (T.fl a ha).1) T.kl
 rw [decide_eq_false hh] at hf
 have kc := T.kl.cell
 refine V.Open.of_wp Try.func48 rfl kb ?_
 refine A2 (A0 (D1 j5 (C3 j5 (A3 (A1 (A2 (A0 (D9 j5 (F8 (v := .ptr _ _ _) j6 (C2 (off := 2) (s := 1) (r := false) j3 kz j3 ?_))))))))))
 (apply C6 (v := Sl) j2; exact T.kid; rfl; exact j5)
 refine T7 j5 (I7 hf rfl rfl rfl rfl rfl rfl (T8 j6 (T8 j6 (D1 j5 (C3 j5 (A3 (A1 (B1 ?_))))))))
 exact F2 rfl rfl (fun _ _ _ e => e) (Nat.le_refl _)
theorem o108w (L : List Sn) (c : Int) (hc : 0 ≤ c ∧ c ≤ 255) (hcl : ∀ j, j < L.length → 0 ≤ (L.getD j Sn0).cl ∧ (L.getD j Sn0).cl ≤ 255) (hs : SrtS L) (hL : L.length ≤ 1048576) {sb : Nat} {h : Heap} {n : Nat} (hsb : sb < n) (k1 : h sb = some ⟨L.map Sn.V, 6, 115⟩) : V.Open En 108 [.view sb 0 L.length, .int .i64 c, .clo 109 []] h n (.tup [.int .i64 (snP c L), .bool (decide (snH c L))]) [] n := by
 refine V.Open.of_wp Try.func108 rfl kb ?_
 refine A2 (A0 (D1 j5 (C3 j5 (A3 (A1 (A2 (A0 (J6 j5 (G7 rfl rfl rfl j3 (D1 j5 (A3 (A1 ?_))))))))))))
 refine A2 (A0 (B5 j5 (D1 j5 (D1 j5 (A3 (A1 (A2 (B4 (F0 ?_)))))))))
 refine E4 (fun (a : Nat × Nat) => [.view sb 0 L.length, .int .i64 c, .clo 109 [], .unk, .unk, .unk, .unk, .unk, .int .i64 L.length, .int .i64 a.1, .int .i64 a.2]) (fun (a : Nat × Nat) => h) (fun (a : Nat × Nat) => n) (fun (a : Nat × Nat) => a.1 ≤ a.2 ∧ a.2 ≤ L.length ∧ (∀ j, j < a.1 → scl L j < c) ∧ (∀ j, a.2 ≤ j → j < L.length → ¬ scl L j < c)) (fun (a : Nat × Nat) => a.2 - a.1) (0, L.length) ?_ ?_ ?_ ?_ ?_
 ·exact ⟨Nat.zero_le _, by dsimp only; omega, N1, fun j h1 h2 => absurd h1 (by dsimp only; omega)⟩
 ·(repeat first | exact LE.nil _ | refine LE.unk _ _ ?_ | refine LE.eq _ _ _ rfl ?_)
 ·exact LessH.refl _
 ·exact Nat.le_refl _
 intro ⟨lo, hi⟩ hI ih
 dsimp only at hI ⊢
 obtain ⟨i1, i2, i3, i4⟩ := hI
 have hmid : (IntKind.u64.wrap ((lo : Int) + hi)).fdiv (2 ^ (min (1 : Int).toNat IntKind.u64.bits)) = (((lo + hi) / 2 : Nat) : Int) := by
  rw [IntKind.wrap_u64, show min (1 : Int).toNat IntKind.u64.bits = 1 from rfl, Int.emod_eq_of_lt (by omega) (by omega), Int.fdiv_eq_ediv_of_nonneg _ (by decide)]
  omega
 have hp1 : lo = hi → snP c L = lo := fun e => Z8 (by omega) i3 (fun h2 => i4 lo (by omega) h2)
 refine E8 (A2 (A2 (A0 (B5 j5 (B5 j5 ?_)))))
 refine H9 j6 ?_ ?_ <;> intro h3_2
 ·refine A3 (A1 (wT rfl (B2 (A1 (B4 (A2 (A0 (B5 j5 (B5 j5 (D0 j3 ?_ ?_ j3 ?_))))))))))
  ·exact Q4
  ·exact Q4
  refine rcv j7 (rshr j3 ?_ j3 ?_)
  ·exact Q4
  (refine r0 ((V6 (k' := .i64) rfl rfl rfl rfl).to (v' := .int .i64 (((lo + hi) / 2 : Nat) : Int)) (by rw [hmid, G6 (by omega) (by omega)])) rfl rfl rfl ?_)
  refine D1 j5 (A3 (A1 (A2 (A0 (rmC j5 (J6 j5 (B5 j5 ?_)))))))
  (apply U0 j4; exact Q0; rfl; exact Q4; exact Q4; exact j3)
  (apply F7 (vs := Sn.V (L.getD ((lo + hi) / 2) Sn0)) j2; exact Q0; exact D8 Sn.V Sn0 (show 0 + (((((lo + hi) / 2) : Nat)) : Int).toNat < L.length by omega); rfl; exact kb; exact srow _ _; exact j3)
  refine B5 j5 ?_
  refine AS (p109 (L.getD ((lo + hi) / 2) Sn0) c (by have := hcl ((lo + hi) / 2) (by omega); omega)) rfl j5 ?_
  refine H9 j6 ?_ ?_ <;> intro h5_7
  ·refine A3 (A1 (wT rfl (A0 (B5 j5 (D0 j3 ?_ ?_ j3 ?_)))))
   ·exact Q4
   ·exact Q4
   refine D1 j5 (A3 (C0 (E3 ?_)))
   have hm := hcl ((lo + hi) / 2) (by omega)
   first
   |(have hx : scl L ((lo + hi) / 2) < c := (by unfold scl; omega)
     exact I4 (ih ((lo + hi) / 2 + 1, hi) ⟨by dsimp only; omega, i2, fun j hj => by dsimp only at hj; by_cases e : j = (lo + hi) / 2 <;> first | (rw [e]; exact hx) | exact Int.lt_trans (hs.lt (j := (lo + hi) / 2) (by omega) (by omega)) hx, i4⟩ (by dsimp only; omega)) (by (repeat first | exact LE.nil _ | refine LE.unk _ _ ?_ | refine LE.eq _ _ _ rfl ?_)) (LessH.refl _) (Nat.le_refl _))
   |(have hx : ¬ scl L ((lo + hi) / 2) < c := (by unfold scl; omega)
     exact I4 (ih (lo, (lo + hi) / 2) ⟨by dsimp only; omega, by dsimp only; omega, i3, fun j hj hj2 e => by
     dsimp only at hj
     refine hx ?_
     by_cases e2 : j = (lo + hi) / 2
     ·rw [e2] at e; exact e
     ·exact Int.lt_trans (hs.lt (i := (lo + hi) / 2) (by omega) hj2) e⟩ (by dsimp only; omega)) (by (repeat first | exact LE.nil _ | refine LE.unk _ _ ?_ | refine LE.eq _ _ _ rfl ?_)) (LessH.refl _) (Nat.le_refl _))
  ·refine A3 (A1 (wF rfl (A0 (B5 j5 (D1 j5 (A3 (C0 (E3 ?_))))))))
   have hm := hcl ((lo + hi) / 2) (by omega)
   first
   |(have hx : scl L ((lo + hi) / 2) < c := (by unfold scl; omega)
     exact I4 (ih ((lo + hi) / 2 + 1, hi) ⟨by dsimp only; omega, i2, fun j hj => by dsimp only at hj; by_cases e : j = (lo + hi) / 2 <;> first | (rw [e]; exact hx) | exact Int.lt_trans (hs.lt (j := (lo + hi) / 2) (by omega) (by omega)) hx, i4⟩ (by dsimp only; omega)) (by (repeat first | exact LE.nil _ | refine LE.unk _ _ ?_ | refine LE.eq _ _ _ rfl ?_)) (LessH.refl _) (Nat.le_refl _))
   |(have hx : ¬ scl L ((lo + hi) / 2) < c := (by unfold scl; omega)
     exact I4 (ih (lo, (lo + hi) / 2) ⟨by dsimp only; omega, by dsimp only; omega, i3, fun j hj hj2 e => by
     dsimp only at hj
     refine hx ?_
     by_cases e2 : j = (lo + hi) / 2
     ·rw [e2] at e; exact e
     ·exact Int.lt_trans (hs.lt (i := (lo + hi) / 2) (by omega) hj2) e⟩ (by dsimp only; omega)) (by (repeat first | exact LE.nil _ | refine LE.unk _ _ ?_ | refine LE.eq _ _ _ rfl ?_)) (LessH.refl _) (Nat.le_refl _))
 ·refine A3 (A1 (wF rfl (E5 (E6 (D2 (C5 (A1 (A2 (A0 (B5 j5 (B5 j5 (B5 j5 ?_))))))))))))
  refine H9 j6 ?_ ?_ <;> intro h8_3
  ·refine C7 j5 (rmC j5 (J6 j5 (B5 j5 ?_)))
   (apply U0 j4; exact Q0; rfl; exact Q4; exact Q4; exact j3)
   (apply F7 (vs := Sn.V (L.getD lo Sn0)) j2; exact Q0; exact D8 Sn.V Sn0 (show 0 + (((lo : Nat)) : Int).toNat < L.length by omega); rfl; exact kb; exact srow _ _; exact j3)
   refine B5 j5 ?_
   refine AS (p109 (L.getD lo Sn0) c (by have := hcl lo (by omega); omega)) rfl j5 ?_
   refine H5 j6 ?_ ?_ <;> intro h8_12
   ·refine B7 (e := true) j6 (D1 j5 (C3 j5 (A3 (A1 (B1 ?_)))))
    have e : lo = hi := (by omega)
    have hp1 := hp1 e
    first
    | (have hd : snH c L := (by unfold snH; rw [hp1]; exact ⟨by omega, by omega⟩); rw [decide_eq_true hd, hp1]; exact F2 rfl rfl (fun _ _ _ e => e) (by omega))
    | (have hd : ¬ snH c L := (fun hq => by have q1 := hq.1; have q2 := hq.2; rw [hp1] at q1 q2; omega); rw [decide_eq_false hd, hp1]; exact F2 rfl rfl (fun _ _ _ e => e) (by omega))
   ·refine B7 (e := false) j6 (D1 j5 (C3 j5 (A3 (A1 (B1 ?_)))))
    have e : lo = hi := (by omega)
    have hp1 := hp1 e
    first
    | (have hd : snH c L := (by unfold snH; rw [hp1]; exact ⟨by omega, by omega⟩); rw [decide_eq_true hd, hp1]; exact F2 rfl rfl (fun _ _ _ e => e) (by omega))
    | (have hd : ¬ snH c L := (fun hq => by have q1 := hq.1; have q2 := hq.2; rw [hp1] at q1 q2; omega); rw [decide_eq_false hd, hp1]; exact F2 rfl rfl (fun _ _ _ e => e) (by omega))
  ·refine C7 j5 (A4 j3 (A4 j3 (A4 j3 (A4 j3 (A4 j3 (A4 j3 (A4 j3 (A4 j3 (B7 (e := false) j6 (D1 j5 (C3 j5 (A3 ?_))))))))))))
   refine A1 (B1 ?_)
   have e : lo = hi := (by omega)
   have hp1 := hp1 e
   first
   | (have hd : snH c L := (by unfold snH; rw [hp1]; exact ⟨by omega, by omega⟩); rw [decide_eq_true hd, hp1]; exact F2 rfl rfl (fun _ _ _ e => e) (by omega))
   | (have hd : ¬ snH c L := (fun hq => by have q1 := hq.1; have q2 := hq.2; rw [hp1] at q1 q2; omega); rw [decide_eq_false hd, hp1]; exact F2 rfl rfl (fun _ _ _ e => e) (by omega))
theorem o108n (c : Int) {h : Heap} {n : Nat} : V.Open En 108 [.nsl, .int .i64 c, .clo 109 []] h n (.tup [.int .i64 0, .bool false]) [] n := by
 refine V.Open.of_wp Try.func108 rfl kb ?_
 refine A2 (A0 (D1 j5 (C3 j5 (A3 (A1 (A2 (A0 (rmN j5 (G7 rfl rfl rfl j3 (D1 j5 (A3 (A1 ?_))))))))))))
 refine A2 (A0 (B5 j5 (D1 j5 (D1 j5 (A3 (A1 (A2 (B4 (F0 (E8 (A2 (A2 ?_))))))))))))
 refine A0 (B5 j5 (B5 j5 ?_))
 refine H9 j6 (fun h => absurd h (by decide)) ?_
 intro h3_2
 refine A3 (A1 (wF rfl (E5 (E6 (D2 (C5 (A1 (A2 (A0 (B5 j5 (B5 j5 (B5 j5 ?_))))))))))))
 refine H9 j6 (fun h => absurd h (by decide)) ?_
 intro h8_3
 refine C7 j5 (A4 j3 (A4 j3 (A4 j3 (A4 j3 (A4 j3 (A4 j3 (A4 j3 (A4 j3 (B7 (e := false) j6 (D1 j5 (C3 j5 (A3 ?_))))))))))))
 refine A1 (B1 ?_)
 exact F2 rfl rfl (fun _ _ _ e => e) (Nat.le_refl _)
theorem o108z {L : List Sn} (c : Int) (hc : 0 ≤ c ∧ c ≤ 255) (hcl : ∀ j, j < L.length → 0 ≤ (L.getD j Sn0).cl ∧ (L.getD j Sn0).cl ≤ 255) (hs : SrtS L) (hL : L.length ≤ 1048576) {Ss : V} {h : Heap} {n : Nat} (hn : ∀ a, fpV Ss = some a → a < n) (k : IsZ h Ss (L.map Sn.V) 6 115) :
  V.Open En 108 [Ss, .int .i64 c, .clo 109 []] h n (.tup [.int .i64 (snP c L), .bool (decide (snH c L))]) [] n := by
 rcases k with ⟨rfl, k⟩ | ⟨sb, rfl, k⟩
 ·have : L = [] := List.map_eq_nil_iff.1 k
  subst this
  rw [decide_eq_false (fun e : snH c [] => Nat.not_lt_zero _ e.1)]
  exact o108n c
 ·rw [List.length_map]; exact o108w L c hc hcl hs hL (hn sb rfl) k
theorem L0 (nm : ByteArray) (tk hd ex kd : Int) (W : V) {lb j : Nat} {R : List (List V)} {h : Heap} {n : Nat} (hlb : lb < n) (k1 : h lb = some ⟨R, 5, 29⟩) (k2 : R[j]? = some [.str nm, .int .i64 tk, .int .i64 hd, .int .i64 ex, W]) : V.Open En 136 [.ptr lb j 0, .int .i64 kd] h n (.agg [.int .i64 kd, .int .i64 tk, .int .i64 hd, .int .i64 ex]) [] (n + 1) := by
 refine V.Open.of_wp Try.func136 rfl kb ?_
 refine A2 (A0 (H3 j6 (A3 (A1 (A2 (B9 [0, 0, 2, 6, 14, 0, 32, 96, 224, 0, 512, 1536, 3584, 8191, 16383] rfl (by decide +kernel) ?_))))))
 refine I2 j5 (G9 j5 (H0 (v := .ptr _ _ _) j6 (C9 (off := 1) (s := 1) (r := false) j3 kz j3 ?_)))
 (apply D5 (v := .int _ _) j2; exact Q0; exact C8; exact j5)
 refine G9 j5 (H0 (v := .ptr _ _ _) j6 (C9 (off := 2) (s := 1) (r := false) j3 kz j3 ?_))
 (apply D5 (v := .int _ _) j2; exact Q0; exact C8; exact j5)
 refine G9 j5 (H0 (v := .ptr _ _ _) j6 (C9 (off := 3) (s := 1) (r := false) j3 kz j3 ?_))
 (apply D5 (v := .int _ _) j2; exact Q0; exact C8; exact j5)
 refine dbd (cs := [.int _ _, .int _ _, .int _ _, .int _ _]) j5 ?_
 (apply dst (u := .agg [.int _ _, .int _ _, .int _ _, .int _ _]) rfl rfl rfl; exact Q0; exact C8; rfl; rfl; rfl; rfl; exact kb; rfl; rfl; rfl)
 refine B3 15 [3, 0, 1, 0, 0, 0, 1, 0, 0, 0, 1, 0, 0, 0, 0] [] j2 (by decide +kernel) trivial ?_
 refine A1 (B1 ?_)
 exact F2 (A6 (A7 rfl (by exact Q0) j2 kb rfl) A9) rfl (K9 (fun j hj => absurd hj List.not_mem_nil) (fun j hj hn => by first | rfl | (simp (disch := omega) only [↓app0, ↓appC, ↓updS, ↓updN]))) (Nat.le_refl _)
theorem p110 (kd : Int) : Pure En 110 [.one (.int .i64 kd)] [.agg [.int .i64 kd, .int .i64 0, .int .i64 (-1), .int .i64 0]] := by
 refine Pure.of_wp Try.func110 rfl kb ?_
 refine A2 (A0 (H3 j6 (A3 (A1 (A2 (A0 (B5 j5 (N0 (cs := [.int _ _, .int _ _, .int _ _, .int _ _]) j5 (D6 (u := .agg [.int _ _, .int _ _, .int _ _, .int _ _]) j3 rfl rfl rfl rfl rfl rfl kb rfl j2 (A3 (A1 (B1 ?_))))))))))))
 exact fin rfl rfl
open Go.V
set_option linter.unusedVariables false
set_option linter.unusedSimpArgs false
set_option maxRecDepth 20000
set_option maxHeartbeats 4000000
def exM (M nx : Int) (L : List Lk) (i : Nat) : List Lk := (List.range L.length).map fun j => if j < i then exF M (nxL M nx (L.take j)) (L.getD j Lk0) else L.getD j Lk0
theorem F5 (M nx : Int) (L : List Lk) (i : Nat) : (exM M nx L i).length = L.length := by simp [exM]
theorem AV {M nx : Int} {L : List Lk} {i j : Nat} (h : j < L.length) : (exM M nx L i).getD j Lk0 = if j < i then exF M (nxL M nx (L.take j)) (L.getD j Lk0) else L.getD j Lk0 := by
 simp [exM, List.getD_eq_getElem?_getD, h]
theorem exM_zero (M nx : Int) (L : List Lk) : exM M nx L 0 = L := by
 apply List.ext_getElem?
 intro j
 by_cases hj : j < L.length
 ·simp [exM, hj]
 ·rw [List.getElem?_eq_none (by rw [F5]; omega), List.getElem?_eq_none (by omega)]
theorem exM_full (M nx : Int) (L : List Lk) : exM M nx L L.length = exL M nx L := by
 unfold exM exL
 exact List.map_congr_left fun j hj => if_pos (List.mem_range.1 hj)
theorem exM_set {M nx : Int} {L : List Lk} {i : Nat} (h : i < L.length) : (exM M nx L i).set i (exF M (nxL M nx (L.take i)) (L.getD i Lk0)) = exM M nx L (i + 1) := by
 apply List.ext_getElem?
 intro j
 rw [List.getElem?_set, F5]
 by_cases hj : j < L.length
 ·have e1 : ∀ k, (exM M nx L k)[j]? = some (if j < k then exF M (nxL M nx (L.take j)) (L.getD j Lk0) else L.getD j Lk0) := fun k => by simp [exM, hj]
  rw [e1, e1]
  by_cases e : i = j
  ·subst e; rw [if_pos rfl, if_pos h, if_pos (by omega)]
  ·rw [if_neg e]
   by_cases h3 : j < i
   ·rw [if_pos h3, if_pos (by omega)]
   ·rw [if_neg h3, if_neg (by omega)]
 ·rw [if_neg (by omega), List.getElem?_eq_none (by rw [F5]; omega), List.getElem?_eq_none (by rw [F5]; omega)]
theorem exM_same {M nx : Int} {L : List Lk} {i : Nat} (h : i < L.length) (hg : ¬ gone M (L.getD i Lk0)) : exM M nx L i = exM M nx L (i + 1) := by
 rw [← exM_set h, show exF M (nxL M nx (L.take i)) (L.getD i Lk0) = L.getD i Lk0 from if_neg hg]
 apply List.ext_getElem?
 intro j
 rw [List.getElem?_set, F5]
 by_cases e : i = j
 ·subst e
  rw [if_pos rfl, if_pos h]
  have : (exM M nx L i)[i]? = some (if i < i then exF M (nxL M nx (L.take i)) (L.getD i Lk0) else L.getD i Lk0) := by simp [exM, h]
  rw [this, if_neg (Nat.lt_irrefl _)]
 ·rw [if_neg e]
def exI (t : Tb) (M : Int) (i : Nat) : Tb := ⟨M, nxL M t.nx (t.lk.take i), exM M t.nx t.lk i, t.sn⟩
theorem exI_zero (t : Tb) (M : Int) : exI t M 0 = ⟨M, t.nx, t.lk, t.sn⟩ := by unfold exI; rw [exM_zero, List.take_zero]; rfl
theorem exI_full (t : Tb) (now : Int) : exI t (max t.tm now) t.lk.length = exT t now := by unfold exI exT; rw [exM_full, List.take_length]
theorem exN_bd2 {tm nx : Int} {l : Lk} : nx ≤ exN tm nx l ∧ exN tm nx l ≤ nx + 1 := by unfold exN; split <;> omega
structure GoI (t : Tb) (M : Int) (id n0 : Nat) (Sl Ss : V) (W0 : Nat → V) (h0 : Heap) (i m : Nat) (W : Nat → V) (g : Heap) : Prop where
 le : i ≤ t.lk.length
 T : TabM (exI t M i) id Sl Ss W g m
 fp : ∀ j a, j < t.lk.length → fpV (W j) = some a → fpV (W0 j) = some a ∨ n0 ≤ a
 fr : ∀ a, a < n0 → ¬ OwnT id Sl Ss W0 t.lk.length a → g a = h0 a
 nn : n0 ≤ m
 ch : Ch h0 g
 nxb : t.nx ≤ nxL M t.nx (t.lk.take i) ∧ nxL M t.nx (t.lk.take i) ≤ t.nx + (i : Int)
theorem GoI.stay {t : Tb} {M : Int} {id n0 : Nat} {Sl Ss : V} {W0 : Nat → V} {h0 : Heap} {i m m2 : Nat} {W : Nat → V} {g g2 : Heap} (G : GoI t M id n0 Sl Ss W0 h0 i m W g) (hi : i < t.lk.length) (hg : ¬ gone M (t.lk.getD i Lk0)) (hm : m ≤ m2) (e : ∀ a, a < m → g2 a = g a) (hch : Ch g g2) :
  GoI t M id n0 Sl Ss W0 h0 (i + 1) m2 W g2 := by
 have hn : exN M (nxL M t.nx (t.lk.take i)) (t.lk.getD i Lk0) = nxL M t.nx (t.lk.take i) := if_neg (fun e => hg e.1)
 have hx : exI t M (i + 1) = exI t M i := by unfold exI; rw [K1 hi, hn, exM_same hi hg]
 refine ⟨by omega, by rw [hx]; exact G.T.ext hm e, G.fp, fun a ha hna => (e a (by have := G.nn; omega)).trans (G.fr a ha hna), by have := G.nn; omega, G.ch.trans hch, ?_⟩
 rw [K1 hi, hn]; have := G.nxb; omega
theorem GoI.free {t : Tb} {M : Int} {id n0 : Nat} {Sl Ss : V} {W0 : Nat → V} {h0 : Heap} {i m m2 : Nat} {W : Nat → V} {g g2 : Heap} (G : GoI t M id n0 Sl Ss W0 h0 i m W g) (hi : i < t.lk.length) (hg : gone M (t.lk.getD i Lk0)) (hm : m ≤ m2)
  {lb len : Nat} (hSl : Sl = .view lb 0 len) (w : V) (g1 : g2 id = some ⟨[[.int .i64 M, .int .i64 (frN (nxL M t.nx (t.lk.take i)) (t.lk.getD i Lk0)), Sl, Ss]], 4, 35⟩)
  (gl : g2 lb = some ⟨(rwW (exM M t.nx t.lk i) W).set i ((frL M (nxL M t.nx (t.lk.take i)) (t.lk.getD i Lk0)).V w), 5, 29⟩) (g3 : IsL g2 w ((frL M (nxL M t.nx (t.lk.take i)) (t.lk.getD i Lk0)).ws.map wtV) 2 123)
  (g4 : ∀ a, fpV w = some a → a < m2 ∧ (fpV (W i) = some a ∨ m ≤ a)) (g5 : ∀ a, a < m → a ≠ id → a ≠ lb → g2 a = g a) (hch : Ch g g2) :
  GoI t M id n0 Sl Ss W0 h0 (i + 1) m2 (fun j => if j = i then w else W j) g2 := by
 have T := G.T
 have hl : (exM M t.nx t.lk i).length = t.lk.length := F5 ..
 have hi2 : i < (exI t M i).lk.length := by show i < (exM M t.nx t.lk i).length; rw [hl]; exact hi
 have hx : exI t M (i + 1) = ⟨M, frN (nxL M t.nx (t.lk.take i)) (t.lk.getD i Lk0), (exI t M i).lk.set i (frL M (nxL M t.nx (t.lk.take i)) (t.lk.getD i Lk0)), (exI t M i).sn⟩ := by
  unfold exI; dsimp only; rw [K1 hi, exN_fr hg, ← exM_set hi, exF_fr hg]
 have fSl : fpV Sl = some lb := by rw [hSl]; rfl
 refine ⟨by omega, ?_, fun j a hj ha => ?_, fun a ha hna => ?_, by have := G.nn; omega, G.ch.trans hch, ?_⟩
 ·rw [hx]
  exact T.setLk hi2 hSl _ w M _ hm g1 gl g3 g4 (fun a o h1 h2 _ => g5 a (T.lt o) h1 h2)
 ·by_cases e : j = i
  ·rw [if_pos e] at ha
   rcases (g4 a ha).2 with h | h
   ·have := G.fp i a hi h
    rw [e]; exact this
   ·exact .inr (by have := G.nn; omega)
  ·rw [if_neg e] at ha; exact G.fp j a hj ha
 ·have h1 : a ≠ id := fun e => hna (.inl e)
  have h2 : a ≠ lb := fun e => hna (.inr (.inl (by rw [e]; exact fSl)))
  exact (g5 a (by have := G.nn; omega) h1 h2).trans (G.fr a ha hna)
 ·rw [K1 hi]; have := G.nxb; have := exN_bd2 (tm := M) (nx := nxL M t.nx (t.lk.take i)) (l := t.lk.getD i Lk0); omega
theorem o96n (nm : ByteArray) (tk hd ex tm nx : Int) (Sl Ss : V) {id lb j : Nat} {R : List (List V)} {h : Heap} {n : Nat} (hid : id < n) (hlb : lb < n) (hne : lb ≠ id) (hh : h id = some ⟨[[.int .i64 tm, .int .i64 nx, Sl, Ss]], 4, 35⟩) (hj : j < R.length) (k1 : h lb = some ⟨R, 5, 29⟩) (k2 : R[j]? = some [.str nm, .int .i64 tk, .int .i64 hd, .int .i64 ex, .nsl]) : V.Open En 96 [.ptr id 0 0, .ptr lb j 0] h n (.tup []) [(lb, some ⟨R.set j [.str nm, .int .i64 tk, .int .i64 (-1), .int .i64 0, .nsl], 5, 29⟩), (id, some ⟨[[.int .i64 tm, .int .i64 nx, Sl, Ss]], 4, 35⟩)] (n + 1) := by
 refine V.Open.of_wp Try.func96 rfl kb ?_
 refine A2 (A2 (A0 (D9 j5 (F8 (v := .ptr _ _ _) j6 (C2 (off := 4) (s := 1) (r := false) j3 kz j3 ?_)))))
 (apply C6 (v := .nsl) j2; exact Q0; exact Q9; exact j5)
 refine G7 rfl rfl rfl j3 ?_
 refine H5 j6 ?_ (fun h => absurd (rfl) h)
 intro h0_5
 refine A3 (A1 (wT rfl (A2 (A0 (D9 j5 (D9 j5 (F8 (v := .ptr _ _ _) j6 (C2 (off := 2) (s := 1) (r := false) j3 kz j3 ?_))))))))
 (apply D6 (u := .int _ _) j3; exact Q0; exact Q9; rfl; rfl; rfl; rfl; exact kb; rfl; exact j2)
 refine F8 (v := .ptr _ _ _) j6 (C2 (off := 3) (s := 1) (r := false) j3 kz j3 ?_)
 (apply D6 (u := .int _ _) j3; exact Q0; exact Q9; rfl; rfl; rfl; rfl; exact kb; rfl; exact j2)
 refine A3 (A1 (B1 (B0 ?_)))
 exact F2 rfl rfl (K9 (by
  intro jx hjx
  simp only [List.map_cons, List.map_nil, List.mem_cons, List.not_mem_nil, or_false] at hjx
  rcases hjx with rfl | rfl <;> (simp (disch := omega) only [↓appC, ↓updN, ↓updS, ↓app0]) <;> first | rfl | exact hh | (focus (simp only [List.set_set]; done)) | (simp only [List.set_set]; rfl)) (fun jx hjx hn => by
  simp only [List.map_cons, List.map_nil, List.mem_cons, List.not_mem_nil, or_false, not_or] at hn
  (simp (disch := omega) only [↓appC, ↓updN, ↓updS, ↓app0]))) (Nat.le_succ _)
theorem o96w (l : Lk) (w : V) (tm nx : Int) (Sl Ss : V) (ht : 0 ≤ tm ∧ tm ≤ 1000000000) (hn : 0 ≤ nx ∧ nx ≤ 1000000) (hw : ∀ i, i < l.ws.length → 1 ≤ (l.ws.getD i (0, 0)).2 ∧ (l.ws.getD i (0, 0)).2 ≤ 1000) {id lb j : Nat} {R : List (List V)} {h : Heap} {n : Nat} (hid : id < n) (hlb : lb < n) (hne : lb ≠ id) (hh : h id = some ⟨[[.int .i64 tm, .int .i64 nx, Sl, Ss]], 4, 35⟩) (hj : j < R.length) (k1 : h lb = some ⟨R, 5, 29⟩) (k2 : R[j]? = some (l.V w)) (k3 : IsL h w (l.ws.map wtV) 2 123) (k4 : ∀ a, fpV w = some a → a < n ∧ a ≠ lb ∧ a ≠ id) :
  ∃ w' : V, (fpV w' = fpV w ∧ IsL h w' ((frL tm nx l).ws.map wtV) 2 123) ∧ V.Open En 96 [.ptr id 0 0, .ptr lb j 0] h n (.tup []) [(lb, some ⟨R.set j ((frL tm nx l).V w'), 5, 29⟩), (id, some ⟨[[.int .i64 tm, .int .i64 (frN nx l), Sl, Ss]], 4, 35⟩)] (n + 1) := by
 obtain ⟨nm, tk, hd, ex, ws⟩ := l
 cases ws with
 | nil =>
  rcases k3 with ⟨rfl, _⟩ | ⟨wb, pre, rfl, k⟩
  ·exact ⟨.nsl, ⟨rfl, .inl ⟨rfl, rfl⟩⟩, o96n nm tk hd ex tm nx Sl Ss hid hlb hne hh hj k1 k2⟩
  ·exact ⟨.view wb pre.length 0, ⟨rfl, .inr ⟨wb, pre, rfl, k⟩⟩, o96a nm tk hd ex tm nx wb pre.length Sl Ss hid hlb hne hh hj k1 k2⟩
 | cons a r =>
  rcases k3 with ⟨_, k⟩ | ⟨wb, pre, rfl, k⟩
  ·cases k
  ·have hw0 := hw 0 (by simp)
   simp only [List.getD_eq_getElem?_getD, List.getElem?_cons_zero, Option.getD_some] at hw0
   have q := k4 wb rfl
   have k2' : R[j]? = some [.str nm, .int .i64 tk, .int .i64 hd, .int .i64 ex, .view wb pre.length (r.length + 1)] := by rw [k2]; simp [Lk.V]
   refine ⟨.view wb (pre.length + 1) r.length, ⟨rfl, .inr ⟨wb, pre ++ [wtV a], by simp [frL], by rw [k]; simp [frL]⟩⟩, ?_⟩
   exact o96b nm tk hd ex tm nx a.1 a.2 wb pre.length r.length Sl Ss (pre ++ (a :: r).map wtV) ht hn ⟨by omega, hw0.2⟩ hid hlb q.1 hne q.2.1 q.2.2 hh hj k1 k2' k (by simp [wtV]) (by simp)
theorem o60v (t : Tb) (now : Int) {M : Int} (hMx : max t.tm now = M) (hM : 0 ≤ M ∧ M ≤ 1000000000) (hn : 0 ≤ t.nx ∧ t.nx ≤ 999900) (hL : t.lk.length ≤ 100) (hwl : ∀ j, j < t.lk.length → ∀ i, i < (t.lk.getD j Lk0).ws.length → 1 ≤ ((t.lk.getD j Lk0).ws.getD i (0, 0)).2 ∧ ((t.lk.getD j Lk0).ws.getD i (0, 0)).2 ≤ 1000)
  {id lb : Nat} {Ss : V} {W0 : Nat → V} {h : Heap} {n : Nat} (T : TabM t id (.view lb 0 t.lk.length) Ss W0 h n) : OpenM En 60 [.ptr id 0 0, .int .i64 now] h n (fun v g m => v = .tup [] ∧ ∃ W, TabM (exT t now) id (.view lb 0 t.lk.length) Ss W g m ∧ (∀ j a, j < t.lk.length → fpV (W j) = some a → fpV (W0 j) = some a ∨ n ≤ a) ∧ (∀ a, a < n → ¬ OwnT id (.view lb 0 t.lk.length) Ss W0 t.lk.length a → g a = h a) ∧ n ≤ m) := by
 have kid := T.kid
 have hid := T.idn
 refine OpenM.of_wp Try.func60 rfl kb ?_
 refine A2 (A0 (D9 j5 (D9 j5 (F8 (v := .ptr _ _ _) j6 (C2 (off := 0) (s := 1) (r := false) j3 kz j3 ?_)))))
 (apply C6 (v := .int _ _) j2; exact Q21; exact Q43; exact j5)
 refine B5 j5 (rmax rfl j5 (F8 (v := .ptr _ _ _) j6 (C2 (off := 0) (s := 1) (r := false) j3 kz j3 ?_)))
 (apply D6 (u := .int _ _) j3; exact Q21; exact Q43; rfl; rfl; rfl; rfl; exact kb; rfl; exact j2)
 refine A3 (A1 (A2 (A0 (D9 j5 (F8 (v := .ptr _ _ _) j6 (C2 (off := 2) (s := 1) (r := false) j3 kz j3 ?_))))))
 (apply C6 (v := .view _ _ _) j2; exact Q21; exact Q43; exact j5)
 refine G7 rfl rfl rfl j3 (B5 j5 (A3 (A1 (B4 (F0 ?_)))))
 refine wlG fun g0 hg0 => ?_
 refine E4 (fun (a : Nat × Nat × (Nat → V) × Heap) => [.ptr id 0 0, .unk, .unk, .unk, .unk, .unk, .unk, .unk, .unk, .unk, .unk, .unk, .unk, .unk, .unk, .unk, .unk, .unk, .view lb 0 t.lk.length, .int .i64 t.lk.length, .int .i64 a.1]) (fun (a : Nat × Nat × (Nat → V) × Heap) => a.2.2.2) (fun (a : Nat × Nat × (Nat → V) × Heap) => a.2.1) (fun (a : Nat × Nat × (Nat → V) × Heap) => GoI t M id n (.view lb 0 t.lk.length) Ss W0 h a.1 a.2.1 a.2.2.1 a.2.2.2) (fun (a : Nat × Nat × (Nat → V) × Heap) => t.lk.length - a.1) (0, n, W0, g0) ?_ ?_ ?_ ?_ ?_
 ·dsimp only
  refine ⟨Nat.zero_le _, ?_, fun j a _ ha => .inl ha, fun a ha hna => ?_, Nat.le_refl _, by rw [hg0]; exact (Ch.refl _).app, by rw [List.take_zero]; show t.nx ≤ t.nx ∧ t.nx ≤ t.nx + _; omega⟩
  ·rw [exI_zero]
   refine T.setTm M (Nat.le_refl _) (by rw [hg0, ← hMx]; exact Q21) (fun a o hne => by rw [hg0]; (simp (disch := (first | omega | assumption)) only [↓appC, ↓updN, ↓updS, ↓app0]))
  ·have hne : a ≠ id := fun e => hna (.inl e)
   rw [hg0]; (simp (disch := (first | omega | assumption)) only [↓appC, ↓updN, ↓updS, ↓app0])
 ·(repeat first | exact LE.nil _ | refine LE.unk _ _ ?_ | refine LE.eq _ _ _ rfl ?_)
 ·exact LessH.refl _
 ·exact Nat.le_refl _
 intro ⟨i, m, W, g⟩ hI ih
 dsimp only at hI ⊢
 have hle := hI.le
 have q1 := hI.T.kid
 have q2 : g lb = some ⟨rwW (exM M t.nx t.lk i) W, 5, 29⟩ := by
  rcases hI.T.kl with ⟨e, _⟩ | ⟨b, e, k⟩
  ·cases e
  ·injection e with e1 e2 e3; rw [e1]; exact k
 dsimp only [exI] at q1
 have hrow : i < t.lk.length → (rwW (exM M t.nx t.lk i) W)[0 + i]? = some ((t.lk.getD i Lk0).V (W i)) := fun h => by
  rw [Nat.zero_add, G5 (by rw [F5]; exact h), AV h, if_neg (Nat.lt_irrefl _)]
 have hkw : i < t.lk.length → IsL g (W i) ((t.lk.getD i Lk0).ws.map wtV) 2 123 := fun h => by
  have := hI.T.kw i (by show i < (exM M t.nx t.lk i).length; rw [F5]; exact h)
  rwa [show (exI t M i).lk.getD i Lk0 = t.lk.getD i Lk0 from by show (exM M t.nx t.lk i).getD i Lk0 = _; rw [AV h, if_neg (Nat.lt_irrefl _)]] at this
 refine E8 (A2 (A0 ?_))
 refine H9 j6 ?_ ?_ <;> intro h2_0
 ·refine A3 (A1 (A2 (wT rfl (B2 (A1 (A2 (B4 (A2 (A0 (B5 j5 (D1 j5 (A3 ?_))))))))))))
  refine A1 (A2 (A0 (D9 j5 (F8 (v := .ptr _ _ _) j6 (C2 (off := 2) (s := 1) (r := false) j3 kz j3 ?_)))))
  (apply C6 (v := .view _ _ _) j2; exact Q21; exact Q43; exact j5)
  refine B5 j5 ?_
  (apply U0 j4; exact Q21; rfl; exact Q4; exact Q4; exact j3)
  refine raP j5 (A3 (A1 (A2 (B9 [0, 1, 3, 7, 15, 31, 63, 127, 255, 511, 63, 1087, 3135, 7231, 16383, 32767] rfl (by decide +kernel) ?_))))
  refine G9 j5 (H0 (v := .ptr _ _ _) j6 (C9 (off := 2) (s := 1) (r := false) j3 kz j3 ?_))
  (apply D5 (v := .int _ _) j2; exact Q21; exact Q43; exact j5)
  refine dne j6 ?_ ?_ <;> intro h5_4
  ·refine F9 j5 (G9 j5 (H0 (v := .ptr _ _ _) j6 (C9 (off := 3) (s := 1) (r := false) j3 kz j3 ?_)))
   (apply D5 (v := .int _ _) j2; exact Q21; exact Q43; exact j5)
   refine G9 j5 (H0 (v := .ptr _ _ _) j6 (C9 (off := 0) (s := 1) (r := false) j3 kz j3 ?_))
   (apply D5 (v := .int _ _) j2; exact Q21; exact Q43; exact j5)
   refine dle j6 ?_ ?_ <;> intro h5_14
   ·refine F4 (e := true) j6 (B3 16 [0, 0, 1, 0, 0, 0, 1, 0, 0, 0, 0, 0, 1, 0, 0, 0] [] j2 (by decide +kernel) trivial ?_)
    refine A1 (wT rfl (A0 (D9 j5 (D9 j5 ?_))))
    refine J9 (o96w (t.lk.getD i Lk0) (W i) M (nxL M t.nx (t.lk.take i)) (.view lb 0 t.lk.length) Ss hM (by have := hI.nxb; omega) (fun k hk => hwl i (by omega) k hk) (id := id) (lb := lb) (j := 0 + i) (R := rwW (exM M t.nx t.lk i) W) hI.T.idn (by have := hI.T.fl lb rfl; omega) (by have := hI.T.fl lb rfl; omega) q1 (by rw [B6, F5]; omega) q2 (hrow (by omega)) (hkw (by omega)) (fun a ha => by have := hI.T.fw i a (by show i < (exM M t.nx t.lk i).length; rw [F5]; omega) ha; exact ⟨this.1, fun e => this.2.2.1 (by rw [e]; rfl), this.2.1⟩)) rfl j5 ?_
    rintro w1 h6_2
    try dsimp only at h6_2
    refine A3 (C0 (A1 (A0 (D0 j3 ?_ ?_ j3 ?_))))
    ·exact Q4
    ·exact Q4
    refine B5 j5 (A3 (E3 ?_))
    first
    |(have hg : gone M (t.lk.getD i Lk0) := ⟨h5_4, h5_14⟩
      have hlb := hI.T.fl lb rfl
      refine I4 (ih (i + 1, m + 1, _, _) (hI.free (m2 := m + 1) (g2 := app [(lb, some ⟨(rwW (exM M t.nx t.lk i) W).set (0 + i) ((frL M (nxL M t.nx (t.lk.take i)) (t.lk.getD i Lk0)).V w1), 5, 29⟩), (id, some ⟨[[.int .i64 M, .int .i64 (frN (nxL M t.nx (t.lk.take i)) (t.lk.getD i Lk0)), .view lb 0 t.lk.length, Ss]], 4, 35⟩)] g) (by omega) hg (by omega) rfl w1 ?_ ?_ ?_ ?_ ?_ (Ch.refl _).app) (by dsimp only; omega)) (by (repeat first | exact LE.nil _ | refine LE.unk _ _ ?_ | refine LE.eq _ _ _ rfl ?_)) (LessH.refl _) (Nat.le_refl _)
      ·exact Q21
      ·rw [Nat.zero_add]; exact Q21
      ·refine h6_2.2.mono fun a ha => ?_
       rw [h6_2.1] at ha
       have q := hI.T.fw i a (by show i < (exM M t.nx t.lk i).length; rw [F5]; omega) ha
       have q3 : a ≠ lb := fun e => q.2.2.1 (by rw [e]; rfl)
       have q4 := q.2.1
       (simp (disch := (first | omega | assumption)) only [↓appC, ↓updN, ↓updS, ↓app0])
      ·intro a ha
       rw [h6_2.1] at ha
       have q := hI.T.fw i a (by show i < (exM M t.nx t.lk i).length; rw [F5]; omega) ha
       exact ⟨by omega, .inl ha⟩
      ·intro a ha h1 h2
       (simp (disch := (first | omega | assumption)) only [↓appC, ↓updN, ↓updS, ↓app0]))
    |(have hg : ¬ gone M (t.lk.getD i Lk0) := (fun e => by first | exact absurd e.1 h5_4 | exact absurd e.2 h5_14)
      exact I4 (ih (i + 1, m, _, _) (hI.stay (by omega) hg (Nat.le_refl _) (fun _ _ => rfl) (Ch.refl _)) (by dsimp only; omega)) (by (repeat first | exact LE.nil _ | refine LE.unk _ _ ?_ | refine LE.eq _ _ _ rfl ?_)) (LessH.refl _) (Nat.le_refl _))
   ·refine F4 (e := false) j6 (B3 16 [0, 0, 1, 0, 0, 0, 1, 0, 0, 0, 0, 0, 1, 0, 0, 0] [] j2 (by decide +kernel) trivial ?_)
    refine A1 (wF rfl (B2 (C0 (A1 (A0 (D0 j3 ?_ ?_ j3 ?_))))))
    ·exact Q4
    ·exact Q4
    refine B5 j5 (A3 (E3 ?_))
    first
    |(have hg : gone M (t.lk.getD i Lk0) := ⟨h5_4, h5_14⟩
      have hlb := hI.T.fl lb rfl
      refine I4 (ih (i + 1, m + 1, _, _) (hI.free (m2 := m + 1) (g2 := app [(lb, some ⟨(rwW (exM M t.nx t.lk i) W).set (0 + i) ((frL M (nxL M t.nx (t.lk.take i)) (t.lk.getD i Lk0)).V w1), 5, 29⟩), (id, some ⟨[[.int .i64 M, .int .i64 (frN (nxL M t.nx (t.lk.take i)) (t.lk.getD i Lk0)), .view lb 0 t.lk.length, Ss]], 4, 35⟩)] g) (by omega) hg (by omega) rfl w1 ?_ ?_ ?_ ?_ ?_ (Ch.refl _).app) (by dsimp only; omega)) (by (repeat first | exact LE.nil _ | refine LE.unk _ _ ?_ | refine LE.eq _ _ _ rfl ?_)) (LessH.refl _) (Nat.le_refl _)
      ·exact Q21
      ·rw [Nat.zero_add]; exact Q21
      ·refine h6_2.2.mono fun a ha => ?_
       rw [h6_2.1] at ha
       have q := hI.T.fw i a (by show i < (exM M t.nx t.lk i).length; rw [F5]; omega) ha
       have q3 : a ≠ lb := fun e => q.2.2.1 (by rw [e]; rfl)
       have q4 := q.2.1
       (simp (disch := (first | omega | assumption)) only [↓appC, ↓updN, ↓updS, ↓app0])
      ·intro a ha
       rw [h6_2.1] at ha
       have q := hI.T.fw i a (by show i < (exM M t.nx t.lk i).length; rw [F5]; omega) ha
       exact ⟨by omega, .inl ha⟩
      ·intro a ha h1 h2
       (simp (disch := (first | omega | assumption)) only [↓appC, ↓updN, ↓updS, ↓app0]))
    |(have hg : ¬ gone M (t.lk.getD i Lk0) := (fun e => by first | exact absurd e.1 h5_4 | exact absurd e.2 h5_14)
      exact I4 (ih (i + 1, m, _, _) (hI.stay (by omega) hg (Nat.le_refl _) (fun _ _ => rfl) (Ch.refl _)) (by dsimp only; omega)) (by (repeat first | exact LE.nil _ | refine LE.unk _ _ ?_ | refine LE.eq _ _ _ rfl ?_)) (LessH.refl _) (Nat.le_refl _))
  ·refine F9 j5 (A5 j3 (A5 j3 (A5 j3 (A5 j3 (A5 j3 (A5 j3 (A5 j3 (A5 j3 (A5 j3 (F4 (e := false) j6 (B3 16 [0, 0, 0, 0, 0, 0, 0, 0, 0, 0, 0, 0, 1, 0, 0, 0] [] j2 (by decide +kernel) trivial ?_)))))))))))
   refine A1 (wF rfl (B2 (C0 (A1 (A0 (D0 j3 ?_ ?_ j3 ?_))))))
   ·exact Q4
   ·exact Q4
   refine B5 j5 (A3 (E3 ?_))
   first
   |(have hg : gone M (t.lk.getD i Lk0) := ⟨h5_4, h5_14⟩
     have hlb := hI.T.fl lb rfl
     refine I4 (ih (i + 1, m + 1, _, _) (hI.free (m2 := m + 1) (g2 := app [(lb, some ⟨(rwW (exM M t.nx t.lk i) W).set (0 + i) ((frL M (nxL M t.nx (t.lk.take i)) (t.lk.getD i Lk0)).V w1), 5, 29⟩), (id, some ⟨[[.int .i64 M, .int .i64 (frN (nxL M t.nx (t.lk.take i)) (t.lk.getD i Lk0)), .view lb 0 t.lk.length, Ss]], 4, 35⟩)] g) (by omega) hg (by omega) rfl w1 ?_ ?_ ?_ ?_ ?_ (Ch.refl _).app) (by dsimp only; omega)) (by (repeat first | exact LE.nil _ | refine LE.unk _ _ ?_ | refine LE.eq _ _ _ rfl ?_)) (LessH.refl _) (Nat.le_refl _)
     ·exact Q21
     ·rw [Nat.zero_add]; exact Q21
     ·refine h6_2.2.mono fun a ha => ?_
      rw [h6_2.1] at ha
      have q := hI.T.fw i a (by show i < (exM M t.nx t.lk i).length; rw [F5]; omega) ha
      have q3 : a ≠ lb := fun e => q.2.2.1 (by rw [e]; rfl)
      have q4 := q.2.1
      (simp (disch := (first | omega | assumption)) only [↓appC, ↓updN, ↓updS, ↓app0])
     ·intro a ha
      rw [h6_2.1] at ha
      have q := hI.T.fw i a (by show i < (exM M t.nx t.lk i).length; rw [F5]; omega) ha
      exact ⟨by omega, .inl ha⟩
     ·intro a ha h1 h2
      (simp (disch := (first | omega | assumption)) only [↓appC, ↓updN, ↓updS, ↓app0]))
   |(have hg : ¬ gone M (t.lk.getD i Lk0) := (fun e => by first | exact absurd e.1 h5_4 | exact absurd e.2 h5_14)
     exact I4 (ih (i + 1, m, _, _) (hI.stay (by omega) hg (Nat.le_refl _) (fun _ _ => rfl) (Ch.refl _)) (by dsimp only; omega)) (by (repeat first | exact LE.nil _ | refine LE.unk _ _ ?_ | refine LE.eq _ _ _ rfl ?_)) (LessH.refl _) (Nat.le_refl _))
 ·refine A3 (A1 (A2 (wF rfl (E5 (E6 (D2 (C5 ?_)))))))
  obtain rfl : i = t.lk.length := by omega
  refine E0 rfl hI.ch ⟨rfl, W, ?_, hI.fp, hI.fr, hI.nn⟩
  have := hI.T
  rwa [← hMx, exI_full] at this
theorem o60m (t : Tb) (now : Int) (hM : 0 ≤ max t.tm now ∧ max t.tm now ≤ 1000000000) (hn : 0 ≤ t.nx ∧ t.nx ≤ 999900) (hL : t.lk.length ≤ 100) (hwl : ∀ j, j < t.lk.length → ∀ i, i < (t.lk.getD j Lk0).ws.length → 1 ≤ ((t.lk.getD j Lk0).ws.getD i (0, 0)).2 ∧ ((t.lk.getD j Lk0).ws.getD i (0, 0)).2 ≤ 1000)
  {id : Nat} {Sl Ss : V} {W0 : Nat → V} {h : Heap} {n : Nat} (T : TabM t id Sl Ss W0 h n) : OpenM En 60 [.ptr id 0 0, .int .i64 now] h n (fun v g m => v = .tup [] ∧ ∃ W, TabM (exT t now) id Sl Ss W g m ∧ (∀ j a, j < t.lk.length → fpV (W j) = some a → fpV (W0 j) = some a ∨ n ≤ a) ∧ (∀ a, a < n → ¬ OwnT id Sl Ss W0 t.lk.length a → g a = h a) ∧ n ≤ m) := by
 rcases T.kl with ⟨rfl, k⟩ | ⟨lb, rfl, k⟩
 ·have hl : t.lk.length = 0 := by have := congrArg List.length k; rw [B6] at this; exact this
  have e : t.lk = [] := List.eq_nil_of_length_eq_zero hl
  have ex : exT t now = ⟨max t.tm now, t.nx, t.lk, t.sn⟩ := by unfold exT; rw [e]; rfl
  refine V.Open.toM (o60n t.tm t.nx now Ss T.idn T.kid) ⟨rfl, W0, ?_, fun j a _ ha => .inl ha, fun a ha hna => ?_, Nat.le_refl _⟩
  ·rw [ex]
   exact T.setTm _ (Nat.le_refl _) (by simp only [appC, app0]; exact updS rfl) (fun a o hne => by simp only [appC, app0]; exact updN hne)
  ·have hne : a ≠ id := fun e => hna (.inl e)
   simp only [appC, app0]; exact updN hne
 ·have e : (rwW t.lk W0).length = t.lk.length := B6 _ _
  rw [e] at T ⊢
  exact o60v t now rfl hM hn hL hwl T
open Go.V
set_option linter.unusedVariables false
set_option linter.unusedSimpArgs false
set_option maxRecDepth 20000
set_option maxHeartbeats 4000000
def idV (n : Nat) (v : V) : Nat := (fpV v).getD n
theorem app2 {n : Nat} {b : Option Blk} {h : Heap} {k : Nat} {c : Blk} : app [(n, none), (n, b)] h k = some c → app [(n, b)] h k = some c := by
 simp only [app]
 intro e
 by_cases h1 : k = n
 ·subst h1; rw [upd_same] at e ⊢; exact e
 ·rw [B8 _ _ h1, B8 _ _ h1] at e; rw [B8 _ _ h1]; exact e
theorem o112n (L : List Sn) (s : Sn) {v1 : Nat} {h : Heap} {n : Nat} (hv : v1 < n) (k1 : h v1 = some ⟨[s.V], 6, 115⟩) : V.Open En 112 [.nsl, .int .i64 0, .view v1 0 1] h n (.view n 0 1) [(n, some ⟨[s.V], 6, 115⟩)] (n + 1) := by
 unfold Sn.V at k1
 refine V.Open.of_wp Try.func112 rfl kb ?_
 refine A2 (A0 (Z4 j5 (A3 (A1 (A2 (A0 (rmN j5 (B5 j5 (rsln j8 (A3 (A1 (A2 ?_))))))))))))
 refine A0 (J6 j5 (G7 rfl rfl rfl j3 (D1 j5 (A3 (A1 (A2 (A2 (A0 (B5 j5 ?_)))))))))
 refine H5 j6 (fun h => absurd h (by decide)) ?_
 intro h3_1
 refine A3 (A1 (wF rfl (B2 (A1 (A2 (A0 (rmN j5 (G7 rfl rfl rfl j3 (D1 j5 (A3 (A1 (A2 ?_))))))))))))
 refine A2 (A0 (B5 j5 (B5 j5 ?_)))
 refine H5 j6 ?_ (fun h => absurd (by decide) h)
 intro h6_2
 refine A3 (A1 (wT rfl (A2 (A0 (rmN j5 (J6 j5 ?_))))))
 (apply ran (s' := 48)  rfl j3 kz; exact S4; exact AT; exact Q42; exact Q42; exact Q42; exact j3)
 refine P9 j5 (A3 (A1 (B1 (B0 ?_))))
 exact F2 rfl rfl (K9 (by
  intro j hj
  simp only [List.map_cons, List.map_nil, List.mem_cons, List.not_mem_nil, or_false] at hj
  rcases hj with rfl <;> (simp (disch := omega) only [↓app0, ↓appC, ↓updS, ↓updN]) <;> first | rfl | (fail)) (fun j hj hn => by
  simp only [List.map_cons, List.map_nil, List.mem_cons, List.not_mem_nil, or_false, not_or] at hn
  simp (disch := omega) only [↓app0, ↓appC, ↓updS, ↓updN])) (Nat.le_refl _)
theorem o112e (L : List Sn) (s : Sn) (hL : L.length ≤ 900) {sb v1 : Nat} {h : Heap} {n : Nat} (hs : sb < n) (hv : v1 < n) (hne : sb ≠ v1) (k0 : h sb = some ⟨(L.map Sn.V), 6, 115⟩) (k1 : h v1 = some ⟨[s.V], 6, 115⟩) : V.Open En 112 [.view sb 0 L.length, .int .i64 L.length, .view v1 0 1] h n (.view n 0 (L.length + 1)) [(sb, none), (n, some ⟨((L ++ [s]).map Sn.V), 6, 115⟩)] (n + 1) := by
 unfold Sn.V at k1
 refine V.Open.of_wp Try.func112 rfl kb ?_
 refine A2 (A0 (Z4 j5 (A3 (A1 (A2 (A0 (J6 j5 (B5 j5 ?_))))))))
 (apply rslv j3; exact Q0; exact j3; exact Q4; exact Q4; exact Q4; exact j3)
 refine A3 (A1 (A2 (A0 (J6 j5 (G7 rfl rfl rfl j3 (D1 j5 (A3 (A1 (A2 (A2 (A0 (B5 j5 ?_))))))))))))
 refine H5 j6 (fun h => absurd h (by decide)) ?_
 intro h3_1
 refine A3 (A1 (wF rfl (B2 (A1 (A2 (A0 (J6 j5 (G7 rfl rfl rfl j3 (D1 j5 (A3 (A1 (A2 ?_))))))))))))
 refine A2 (A0 (B5 j5 (B5 j5 ?_)))
 refine H5 j6 ?_ (fun h => absurd (rfl) h)
 intro h6_2
 refine A3 (A1 (wT rfl (A2 (A0 (J6 j5 (J6 j5 ?_))))))
 (apply rap (s' := 48)  rfl rfl; exact Q0; exact j2; (first | rfl | omega | (show _ = (List.map Sn.V L).length; rw [List.length_map]; omega) | (show _ = R.length; omega)); exact j2; exact kz; exact S4; exact AT; (first | omega | (focus (simp only [List.length_cons, List.length_nil]; omega)) | ((show (_ + 1) * _ ≤ _); omega) | ((show _ + 1 ≤ _); omega)); (first | omega | (focus (simp only [List.length_cons, List.length_nil]; omega)) | ((show (_ + 1) * _ ≤ _); omega) | ((show _ + 1 ≤ _); omega)); exact j3)
 refine P9 j5 (A3 (A1 (B1 (B0 ?_))))
 exact F2 rfl rfl (K9 (by
  intro j hj
  simp only [List.map_cons, List.map_nil, List.mem_cons, List.not_mem_nil, or_false] at hj
  rcases hj with rfl | rfl <;> (simp (disch := omega) only [↓app0, ↓appC, ↓updS, ↓updN]) <;> first | rfl | (exact congrArg (fun z => some (Blk.mk z 6 115)) (by simp only [List.map_append]; rfl))) (fun j hj hn => by
  simp only [List.map_cons, List.map_nil, List.mem_cons, List.not_mem_nil, or_false, not_or] at hn
  simp (disch := omega) only [↓app0, ↓appC, ↓updS, ↓updN])) (Nat.le_refl _)
theorem o146n (nm : ByteArray) (tk hd ex : Int) (W : V) (hW : W.cell = true) {v1 : Nat} {h : Heap} {n : Nat} (hv : v1 < n) (k1 : h v1 = some ⟨[[.str nm, .int .i64 tk, .int .i64 hd, .int .i64 ex, W]], 5, 29⟩) : V.Open En 146 [.nsl, .int .i64 0, .view v1 0 1] h n (.view n 0 1) [(n, some ⟨[[.str nm, .int .i64 tk, .int .i64 hd, .int .i64 ex, W]], 5, 29⟩)] (n + 1) := by
 refine V.Open.of_wp Try.func146 rfl kb ?_
 refine A2 (A0 (Z4 j5 (A3 (A1 (A2 (A0 (rmN j5 (B5 j5 (rsln j8 (A3 (A1 (A2 ?_))))))))))))
 refine A0 (J6 j5 (G7 rfl rfl rfl j3 (D1 j5 (A3 (A1 (A2 (A2 (A0 (B5 j5 ?_)))))))))
 refine H5 j6 (fun h => absurd h (by decide)) ?_
 intro h3_1
 refine A3 (A1 (wF rfl (B2 (A1 (A2 (A0 (rmN j5 (G7 rfl rfl rfl j3 (D1 j5 (A3 (A1 (A2 ?_))))))))))))
 refine A2 (A0 (B5 j5 (B5 j5 ?_)))
 refine H5 j6 ?_ (fun h => absurd (by decide) h)
 intro h6_2
 refine A3 (A1 (wT rfl (A2 (A0 (rmN j5 (J6 j5 ?_))))))
 (apply ran (s' := 64)  rfl j3 kz; exact S4; exact AT; exact Q42; exact Q42; exact Q42; exact j3)
 refine P9 j5 (A3 (A1 (B1 (B0 ?_))))
 exact F2 rfl rfl (K9 (by
  intro j hj
  simp only [List.map_cons, List.map_nil, List.mem_cons, List.not_mem_nil, or_false] at hj
  rcases hj with rfl <;> (simp (disch := omega) only [↓app0, ↓appC, ↓updS, ↓updN]) <;> first | rfl | (fail)) (fun j hj hn => by
  simp only [List.map_cons, List.map_nil, List.mem_cons, List.not_mem_nil, or_false, not_or] at hn
  simp (disch := omega) only [↓app0, ↓appC, ↓updS, ↓updN])) (Nat.le_refl _)
theorem o146e (R : List (List V)) (nm : ByteArray) (tk hd ex : Int) (W : V) (hW : W.cell = true) (hL : R.length ≤ 900) {sb v1 : Nat} {h : Heap} {n : Nat} (hs : sb < n) (hv : v1 < n) (hne : sb ≠ v1) (k0 : h sb = some ⟨R, 5, 29⟩) (k1 : h v1 = some ⟨[[.str nm, .int .i64 tk, .int .i64 hd, .int .i64 ex, W]], 5, 29⟩) : V.Open En 146 [.view sb 0 R.length, .int .i64 R.length, .view v1 0 1] h n (.view n 0 (R.length + 1)) [(sb, none), (n, some ⟨(R ++ [[.str nm, .int .i64 tk, .int .i64 hd, .int .i64 ex, W]]), 5, 29⟩)] (n + 1) := by
 refine V.Open.of_wp Try.func146 rfl kb ?_
 refine A2 (A0 (Z4 j5 (A3 (A1 (A2 (A0 (J6 j5 (B5 j5 ?_))))))))
 (apply rslv j3; exact Q0; exact j3; exact Q4; exact Q4; exact Q4; exact j3)
 refine A3 (A1 (A2 (A0 (J6 j5 (G7 rfl rfl rfl j3 (D1 j5 (A3 (A1 (A2 (A2 (A0 (B5 j5 ?_))))))))))))
 refine H5 j6 (fun h => absurd h (by decide)) ?_
 intro h3_1
 refine A3 (A1 (wF rfl (B2 (A1 (A2 (A0 (J6 j5 (G7 rfl rfl rfl j3 (D1 j5 (A3 (A1 (A2 ?_))))))))))))
 refine A2 (A0 (B5 j5 (B5 j5 ?_)))
 refine H5 j6 ?_ (fun h => absurd (rfl) h)
 intro h6_2
 refine A3 (A1 (wT rfl (A2 (A0 (J6 j5 (J6 j5 ?_))))))
 (apply rap (s' := 64)  rfl rfl; exact Q0; exact j2; (first | rfl | omega | (show _ = (List.map Sn.V L).length; rw [List.length_map]; omega) | (show _ = R.length; omega)); exact j2; exact kz; exact S4; exact AT; (first | omega | (focus (simp only [List.length_cons, List.length_nil]; omega)) | ((show (_ + 1) * _ ≤ _); omega) | ((show _ + 1 ≤ _); omega)); (first | omega | (focus (simp only [List.length_cons, List.length_nil]; omega)) | ((show (_ + 1) * _ ≤ _); omega) | ((show _ + 1 ≤ _); omega)); exact j3)
 refine P9 j5 (A3 (A1 (B1 (B0 ?_))))
 exact F2 rfl rfl (K9 (by
  intro j hj
  simp only [List.map_cons, List.map_nil, List.mem_cons, List.not_mem_nil, or_false] at hj
  rcases hj with rfl | rfl <;> (simp (disch := omega) only [↓app0, ↓appC, ↓updS, ↓updN]) <;> first | rfl | (fail)) (fun j hj hn => by
  simp only [List.map_cons, List.map_nil, List.mem_cons, List.not_mem_nil, or_false, not_or] at hn
  simp (disch := omega) only [↓app0, ↓appC, ↓updS, ↓updN])) (Nat.le_refl _)
theorem o112z (L : List Sn) (s : Sn) (i : Nat) (hi : i ≤ L.length) (hL : L.length ≤ 900) {Ss : V} {vb : Nat} {h : Heap} {n : Nat} (k0 : IsZ h Ss (L.map Sn.V) 6 115) (hs : ∀ a, fpV Ss = some a → a < n ∧ a ≠ vb) (hv : vb < n) (k1 : h vb = some ⟨[s.V], 6, 115⟩) :
  V.Open En 112 [Ss, .int .i64 i, .view vb 0 1] h n (.view n 0 (L.length + 1)) [(idV n Ss, none), (n, some ⟨(insL L i s).map Sn.V, 6, 115⟩)] (n + 1) := by
 rcases k0 with ⟨rfl, k⟩ | ⟨sb, rfl, k⟩
 ·have : L = [] := List.map_eq_nil_iff.1 k
  subst this
  obtain rfl : i = 0 := by simpa using hi
  exact V.Open.lessW (o112n [] s hv k1) (fun k b hb => app2 hb)
 ·have q := hs sb rfl
  rw [List.length_map]
  show V.Open En 112 [.view sb 0 L.length, .int .i64 i, .view vb 0 1] h n (.view n 0 (L.length + 1)) [(sb, none), (n, some ⟨(insL L i s).map Sn.V, 6, 115⟩)] (n + 1)
  by_cases e : i < L.length
  ·exact o112m L s i e (by omega) q.1 hv (Ne.symm q.2) k k1
  ·obtain rfl : i = L.length := by omega
   have := o112e L s hL q.1 hv q.2 k k1
   rwa [show insL L L.length s = L ++ [s] by simp [insL]]
theorem o146z (R : List (List V)) (nm : ByteArray) (tk hd ex : Int) (W : V) (hW : W.cell = true) (i : Nat) (hi : i ≤ R.length) (hR : ∀ e ∈ R, e.length = 5) (hL : R.length ≤ 900) {Sl : V} {vb : Nat} {h : Heap} {n : Nat} (k0 : IsZ h Sl R 5 29) (hs : ∀ a, fpV Sl = some a → a < n ∧ a ≠ vb) (hv : vb < n) (k1 : h vb = some ⟨[[.str nm, .int .i64 tk, .int .i64 hd, .int .i64 ex, W]], 5, 29⟩) :
  V.Open En 146 [Sl, .int .i64 i, .view vb 0 1] h n (.view n 0 (R.length + 1)) [(idV n Sl, none), (n, some ⟨R.take i ++ [.str nm, .int .i64 tk, .int .i64 hd, .int .i64 ex, W] :: R.drop i, 5, 29⟩)] (n + 1) := by
 rcases k0 with ⟨rfl, rfl⟩ | ⟨sb, rfl, k⟩
 ·obtain rfl : i = 0 := by simpa using hi
  exact V.Open.lessW (o146n nm tk hd ex W hW hv k1) (fun k b hb => app2 hb)
 ·have q := hs sb rfl
  show V.Open En 146 [.view sb 0 R.length, .int .i64 i, .view vb 0 1] h n (.view n 0 (R.length + 1)) [(sb, none), (n, some ⟨_, 5, 29⟩)] (n + 1)
  by_cases e : i < R.length
  ·exact o146m R _ i e (by omega) q.1 hv (Ne.symm q.2) k k1
  ·obtain rfl : i = R.length := by omega
   have := o146e R nm tk hd ex W hW hL q.1 hv q.2 k k1
   rwa [List.take_of_length_le (Nat.le_refl _), List.drop_of_length_le (Nat.le_refl _)]
end Go.Proofs.Ytknnniaoboaghaa
namespace Go.V
open Go
open Go.RowKit (Below)
set_option linter.unusedVariables false
set_option linter.unusedSimpArgs false
section ops
variable {E : Env} {o : Oper} {t : Nat → V} {h : Heap} {n : Nat}
theorem run_bounds3 {P : Program} {w : World} {len cap : Nat} {k1 k2 k3 : IntKind} {l r m : Int} (h0 : 0 ≤ l) (h1 : l ≤ r) (h2 : r ≤ m) (h3 : m ≤ cap) : (Instr.sliceBounds true len cap (some (.int k1 l)) (some (.int k2 r)) (some (.int k3 m))).run P w = .ok (l.toNat, r.toNat, m.toNat) w := by
  have one : ∀ (k : IntKind) (i : Int) (y : Nat) (code : BoundsCode) (w : World), 0 ≤ i → i ≤ y → (Instr.sliceBound (.int k i) y code).run P w = .ok i.toNat w := fun k i y code w a b => by
    simp [Instr.sliceBound, asIntOf, a, b]
  unfold Instr.sliceBounds
  simp [one k3 m cap _ w (by omega) h3, one k2 r m.toNat _ w (by omega) (by omega), one k1 l r.toNat _ w h0 (by omega)]
theorem op_slice3 {ty e : TypeId} {x lo hi mx : Operand} {k1 k2 k3 : IntKind} {id off len cp sz : Nat} {l r m : Int} (ho : o.op = .slice ty x (some lo) (some hi) (some mx)) (hx : E.eval t x = .vcap id off len cp)
    (hs : sliceP E.P ty = some (e, sz)) (hl : E.eval t lo = .int k1 l) (hr : E.eval t hi = .int k2 r) (hm : E.eval t mx = .int k3 m) (h0 : 0 ≤ l) (h1 : l ≤ r) (h2 : r ≤ m) (h3 : m ≤ cp) :
    OpOK E o t h n [] false .unk [] n :=
  OpOK.value fun c a h2' hx' hg hrd => by
    have g1 := hx' x (by simp [ho, Op.operands])
    rw [hx] at g1
    have gl := (by have := hx' lo (by simp [ho, Op.operands]); rw [hl] at this; exact this.int_inv)
    have gr := (by have := hx' hi (by simp [ho, Op.operands]); rw [hr] at this; exact this.int_inv)
    have gm := (by have := hx' mx (by simp [ho, Op.operands]); rw [hm] at this; exact this.int_inv)
    obtain ⟨hu, i, hi', hiz⟩ := H7 hs
    generalize hw : a.eval x = w at g1
    cases g1 with
    | vcap _ _ _ _ p off' hp hof hlc hpm =>
      have hrun := run_bounds3 (P := E.P) (w := c.w) (len := len) (cap := cp) (k1 := k1) (k2 := k2) (k3 := k3) h0 h1 h2 h3
      refine ⟨.slice (if m.toNat = l.toNat then some ⟨p.b, off', none⟩ else (some (⟨p.b, off', none⟩ : Addr)).map (·.add (l.toNat * i.size))) (r.toNat - l.toNat) (m.toNat - l.toNat), ?_, .unk _⟩
      · simp [execOp, ho, hw, gl, gr, gm, Instr.sliceAt, Instr.slice, run_underlying hu, hrun, sizeOf, typeInfo, hi']
theorem W3 {ty e : TypeId} {x : Operand} {lo hi : Option Operand} {sz : Nat} (ho : o.op = .slice ty x lo hi none) (hx : E.eval t x = .nsl)
    (hs : sliceP E.P ty = some (e, sz)) (hl : bndV E t lo 0 = some 0) (hr : bndV E t hi 0 = some 0) : OpOK E o t h n [] false .nsl [] n :=
  OpOK.value fun c a h2' hx' hg hrd => by
    have g1 := hx' x (by simp [ho, Op.operands])
    rw [hx] at g1
    have gl := N8 hl (fun y hy => hx' y (by simp [ho, Op.operands, hy]))
    have gr := N8 hr (fun y hy => hx' y (by simp [ho, Op.operands, hy]))
    obtain ⟨hu, i, hi', hiz⟩ := H7 hs
    have hv := g1.nsl_inv
    have hrun := W9 (P := E.P) (w := c.w) (len := 0) (cap := 0) (lo := lo.map a.eval) (hi := hi.map a.eval) (l := 0) (r := 0)
      (by rcases gl with ⟨rfl, h⟩ | ⟨y, k, rfl, h⟩
          · exact .inl ⟨rfl, rfl⟩
          · exact .inr ⟨k, by simp [h]⟩)
      (by rcases gr with ⟨rfl, h⟩ | ⟨y, k, rfl, h⟩
          · exact .inl ⟨rfl, rfl⟩
          · exact .inr ⟨k, by simp [h]⟩) (Int.le_refl _) (Int.le_refl _) (Int.le_refl _) (Nat.le_refl _)
    refine ⟨.slice none 0 0, ?_, .nsl⟩
    simp [execOp, ho, hv, Instr.sliceAt, Instr.slice, run_underlying hu, hrun, sizeOf, typeInfo, hi']
theorem op_clear {ty e : TypeId} {x : Operand} {sz by' id off len : Nat} {b : Blk} (ho : o.op = .call { callee := .builtin .clear, args := #[x], argTypes := #[ty] })
    (hx : dstV (E.eval t x) = some (id, off, len)) (hb : h id = some b) (hbz : b.sz = sz) (hbt : b.ty = e) (hle : off + len ≤ b.es.length) (hs : elemP E.P ty = some (e, sz, by')) (hone : zeroOne E.P e = true) (h0 : sz ≠ 0) :
    OpOK E o t h n [id] false (.tup []) [(id, some ⟨putR b.es off (List.replicate len (List.replicate sz .unk)), sz, e⟩)] n := by
  intro c a h2 K Q hd hx' hg hrd _ hf hK
  have g1 := hx' x (by simp [ho, Op.operands, Call.operands])
  obtain ⟨p, o', cap, hw, hp, hof, hlc, hpm⟩ := Z1 g1 hx
  obtain ⟨i, z, hu, hi, hz, rfl, rfl, hzz⟩ := J2 hs
  have hzo : z.cells.all (fun v => v.oneCell') = true := by
    unfold zeroOne at hone
    rw [hi] at hone
    simp only [hz] at hone
    exact hone
  have hb2 : h2 id = some b := by rw [hrd id (by simp)]; exact hb
  obtain ⟨cells, fz, q2, q3, q4, q5, q6, q7, q8⟩ := hg.cells hb2 hp hpm
  let news : List Value := (Builtin.zeroCells z.cells len).toList
  have hnl : news.length = len * i.size := by simp only [news, Array.length_toList, size_zeroCells, hzz]
  have h1n : ∀ u ∈ news, u.oneCell' = true := W8 hzo (by rw [hzz]; exact h0)
  by_cases hlen : len = 0
  · subst hlen
    have hex : (execOp a.eval o).run E.P c.w = .ok (.value (.tuple #[])) c.w := by
      simp [execOp, ho, hw, resolve, invoke, builtin, Builtin.clear_, run_underlying hu]
    unfold Oper.wp
    rw [hex, Oper.upon_value]
    refine hK c _ (Ext.refl c) ?_ (fun id h => .inl h) (.tup [] #[] rfl (by simp))
    have e1 : app [(id, some ⟨putR b.es off (List.replicate 0 (List.replicate i.size .unk)), i.size, e⟩)] h2 = h2 := by
      have e2 : putR b.es off (List.replicate 0 (List.replicate i.size V.unk)) = b.es := by simp [putR]
      rw [e2, ← hbz, ← hbt]
      funext k
      simp only [app]
      by_cases hk : k = id
      · subst hk; rw [upd_same, hb2]
      · rw [B8 _ _ hk]
    rw [e1]; exact hg
  · have hcap : ¬ cap = 0 := by omega
    obtain ⟨e1, e2⟩ := hof.resolve_left hcap
    have e1' := e1
    rw [q2, hbz] at e1 e2
    have hle2 : len * i.size ≤ cap * i.size := Nat.mul_le_mul_right _ hlc
    have hcell : ∀ k, k < news.length → (c.w.cell? ⟨p.b, o' + 0 + k, none⟩).isSome = true := fun k hk => by
      rw [hnl] at hk
      have : o' + k < cells.size := by omega
      simp [World.cell?, q3, this]
    have hfrz : ∀ k, k < news.length → c.w.frozen? ⟨p.b, o' + 0 + k, none⟩ = false := fun k hk => by
      rw [hnl] at hk
      have : ¬ (fz.1 ≤ o' + k ∧ o' + k < fz.2) := by omega
      cases hz : (decide (fz.1 ≤ o' + k) && decide (o' + k < fz.2)) with
      | false => obtain ⟨z1, z2⟩ := fz; simpa [World.frozen?, q3] using hz
      | true =>
        simp only [Bool.and_eq_true, decide_eq_true_eq] at hz
        exact absurd hz this
    have hst := run_storeCells_cells (P := E.P) p.b o' news 0 c.w hcell hfrz h1n
    simp only [Nat.add_zero] at hst
    have hex : (execOp a.eval o).run E.P c.w = .ok (.value (.tuple #[])) (c.put p (p.o + off * b.sz) news).w := by
      have hz' : ∀ w, (zeroValue e).run E.P w = .ok z w := fun w => by simp [zeroValue, typeInfo, hi, hz]
      obtain ⟨m, rfl⟩ : ∃ m, len = m + 1 := ⟨len - 1, by omega⟩
      simp only [news] at hst
      have e3 : o' = p.o + off * b.sz := by rw [hbz]; exact e1
      rw [e3] at hst hw
      simp [execOp, ho, hw, resolve, invoke, builtin, Builtin.clear_, run_underlying hu, hz', hst, Cx.put, news]
    obtain ⟨hx2, hg2⟩ := hg.put (ys := List.replicate len (List.replicate i.size V.unk)) (news := news) hb2 hp hpm (d := off) (by omega) (fun e he => by rw [List.eq_of_mem_replicate he]; simp [hbz]) (by rw [hnl, hbz]; simp)
      (fun i' j y hy => by
        obtain ⟨e1, e2, rfl⟩ := get2_unk hy
        have : (i' + 1) * i.size ≤ len * i.size := Nat.mul_le_mul_right _ e1
        rw [Nat.succ_mul] at this
        have hlt2 : i' * b.sz + j < news.length := by rw [hbz]; omega
        exact ⟨_, List.getElem?_eq_getElem hlt2, .unk _⟩) h1n (.inl (by
        rw [hbz]
        simp only [List.length_replicate]
        rw [Nat.add_mul]; omega))
    unfold Oper.wp
    rw [hex, Oper.upon_value]
    refine hK _ _ hx2 ?_ (fun id' hid' => .inl hid') (.tup [] #[] rfl (by simp))
    have e9 : app [(id, some ⟨putR b.es off (List.replicate len (List.replicate i.size .unk)), i.size, e⟩)] h2 = upd h2 id (some ⟨putR b.es off (List.replicate len (List.replicate i.size .unk)), b.sz, b.ty⟩) := by
      rw [hbz, hbt]; rfl
    rw [e9]; exact hg2
end ops
section
variable {E : Env} {sz : Nat} {t : Nat → V} {h : Heap} {n : Nat} {ops : Array Oper} {l : List Oper} {o : Oper} {bl : List Nat} {pre : List Ef} {R : (Nat → V) → Heap → Nat → Prop} {x y : Operand} {ty ty' : TypeId} {k : IntKind} {a b : Int}
theorem rsl3 {lo hi mx : Operand} {e : TypeId} {k1 k2 k3 : IntKind} {i j m cp s : Nat} {a b c : Int} (G0 : o.op = .slice ty x (some lo) (some hi) (some mx) ∧ E.eval t x = .vcap i j m cp ∧ sliceP E.P ty = some (e, s) ∧ E.eval t lo = .int k1 a ∧ E.eval t hi = .int k2 b ∧ E.eval t mx = .int k3 c) (h0 : 0 ≤ a) (h1 : a ≤ b) (h2 : b ≤ c) (h3 : c ≤ cp) {d : Nat} (G1 : o.dst = some d ∧ Nat.blt d sz = true ∧ guardV ops t o = some true) (w : WR E sz ops l (upd t d .unk) h n R) : WR E sz ops (o :: l) t h n R := have ⟨ho, hx, hs, hl, hr, hm⟩ := G0; have ⟨hdd, hd, hg⟩ := G1; r0 (op_slice3 ho hx hs hl hr hm h0 h1 h2 h3) hdd hd hg w
theorem dsnn {lo hi : Option Operand} {e : TypeId} {s : Nat} {d : Nat} (G0 : o.op = .slice ty x lo hi none ∧ E.eval t x = .nsl ∧ sliceP E.P ty = some (e, s) ∧ bndV E t lo 0 = some 0 ∧ bndV E t hi 0 = some 0 ∧ o.dst = some d ∧ Nat.blt d sz = true ∧ guardV ops t o = some true) (w : WD E sz ops bl (⟨false, .nsl, [], false, [], n, n⟩ :: pre) l (upd t d (.nsl)) h n R) : WD E sz ops bl pre (o :: l) t h n R := have ⟨ho, hx, hs, hl, hr, hdd, hd, hg⟩ := G0; d0 (W3 ho hx hs hl hr) hdd hd hg w
theorem rclr {s s' i j m : Nat} {B : Blk} {e : TypeId} (ho : o.op = .call { callee := .builtin .clear, args := #[x], argTypes := #[ty] }) (hx : dstV (E.eval t x) = some (i, j, m)) (hb : h i = some B) (G0 : B.sz = s ∧ B.ty = e) (hle : j + m ≤ B.es.length) (hs : elemP E.P ty = some (e, s, s')) (hone : zeroOne E.P e = true) (h0 : s ≠ 0) (G1 : o.dst = none ∧ guardV ops t o = some true) (w : WR E sz ops l t (app [(i, some ⟨putR B.es j (List.replicate m (List.replicate s .unk)), s, e⟩)] h) n R) : WR E sz ops (o :: l) t h n R := have ⟨hbz, hbt⟩ := G0; have ⟨hdd, hg⟩ := G1;
  rOp (op_clear ho hx hb hbz hbt hle hs hone h0) (by rw [hdd]; rfl) hg (Nat.le_refl _) (fun h => by simp at h) (by rw [hdd]; exact w)
end
end Go.V
namespace Go.V
open Go
open Go.RowKit (Below)
set_option linter.unusedVariables false
theorem CellsAt.take {c : Cx} {p : Place} {b : Blk} (h : CellsAt c p b) (k : Nat) : CellsAt c p ⟨b.es.take k, b.sz, b.ty⟩ := by
  obtain ⟨cells, fz, h2, h3, h4, h5, h6, h7, h8⟩ := h
  refine ⟨cells, fz, h2, h3, h4, h5, ?_, fun e he => h7 e (List.mem_of_mem_take he), fun i j x hx => ?_⟩
  · have : (b.es.take k).length * b.sz ≤ b.es.length * b.sz := Nat.mul_le_mul_right _ (by simp; omega)
    exact Nat.le_trans this h6
  · refine h8 i j x ?_
    unfold get2 at hx ⊢
    simp only at hx
    rw [List.getElem?_take] at hx
    split at hx
    · exact hx
    · cases hx
theorem Open.aliasT {E : Env} {f : FuncId} {args : List V} {h : Heap} {n m id off len cp : Nat} {wr : List (Nat × Option Blk)} {X : Blk}
    (H : Open E f args h n (.vcap id off len cp) wr m) (hX : app wr h id = some X) (k0 : Nat) : Open E f args h n (.view m off len) (wr ++ [(id, none), (m, some ⟨X.es.take k0, X.sz, X.ty⟩)]) (m + 1) := by
  generalize hY : (⟨X.es.take k0, X.sz, X.ty⟩ : Blk) = Y
  unfold Open at H ⊢
  refine ⟨⟨H.1.1, Nat.le_succ_of_le H.1.2⟩, fun c vs hg hfr hal har => ?_⟩
  refine Calls.mono (H.2 c vs hg hfr hal har) ?_
  rintro e w' ⟨u, c', rfl, rfl, hx, hg', hd, hv⟩
  generalize hvv : V.vcap id off len cp = vv at hv
  cases hv with
  | vcap id' off' len' cp' p o hp ho hl hm =>
    cases hvv
    have hmn : c'.ρ m = none := by
      cases hq : c'.ρ m with
      | none => rfl
      | some q =>
        rcases hd m (by rw [hq]; nofun) with h1 | h1
        · exact absurd (hfr m H.1.2) h1
        · omega
    have him : id ≠ m := fun e => by rw [e, hmn] at hp; cases hp
    let c2 : Cx := { c' with ρ := upd c'.ρ m (some p) }
    have hx2 : Ext c' c2 := by
      refine ⟨rfl, fun i q hq => ?_, fun _ h => h, fun _ _ => rfl, Below.refl _ _⟩
      have : i ≠ m := fun e => by rw [e, hmn] at hq; cases hq
      show upd c'.ρ m (some p) i = some q
      rw [B8 _ _ this]; exact hq
    have hρ : ∀ i, i ≠ m → c2.ρ i = c'.ρ i := fun i hi => B8 _ _ hi
    have hρm : c2.ρ m = some p := upd_same _ _ _
    have happ : app (wr ++ [(id, none), (m, some Y)]) h = upd (upd (app wr h) id none) m (some Y) := by rw [I3]; rfl
    have hlive : ∀ i x, upd (upd (app wr h) id none) m (some Y) i = some x → (i = m ∧ x = Y) ∨ (i ≠ m ∧ i ≠ id ∧ app wr h i = some x) := by
      intro i x hi
      by_cases h1 : i = m
      · subst h1; rw [upd_same] at hi; exact .inl ⟨rfl, (Option.some.inj hi).symm⟩
      · rw [B8 _ _ h1] at hi
        by_cases h2 : i = id
        · subst h2; rw [upd_same] at hi; cases hi
        · rw [B8 _ _ h2] at hi; exact .inr ⟨h1, h2, hi⟩
    
    have hold : ∀ i x r, upd (upd (app wr h) id none) m (some Y) i = some x → c2.ρ i = some r → ∃ k x', app wr h k = some x' ∧ c'.ρ k = some r ∧ ((i = m ∧ k = id) ∨ (i = k ∧ k ≠ id)) := by
      intro i x r hi hr
      rcases hlive i x hi with ⟨rfl, rfl⟩ | ⟨h1, h2, h3⟩
      · rw [hρm] at hr; cases hr
        exact ⟨id, X, hX, hp, .inl ⟨rfl, rfl⟩⟩
      · rw [hρ i h1] at hr
        exact ⟨i, x, h3, hr, .inr ⟨rfl, h2⟩⟩
    refine ⟨_, c2, rfl, rfl, hx.trans hx2, ?_, fun i hi => ?_, ?_⟩
    · rw [happ]
      refine ⟨fun i x hi => ?_, fun i i' x x' r r' hi hi' hr hr' he => ?_, hg'.imm, fun i x r hi hr => ?_, fun i r hr => ?_, hg'.base, fun g cs hgc => (hg'.glob g cs hgc).mono hx2⟩
      · rcases hlive i x hi with ⟨rfl, rfl⟩ | ⟨h1, h2, h3⟩
        · subst hY
          obtain ⟨q, g1, g2, g3⟩ := hg'.blk id _ hX
          rw [hp] at g1; obtain rfl := Option.some.inj g1
          exact ⟨_, hρm, fun hm' => ((CellsAt.take (g2 hm') k0).mono hx2 rfl), fun hm' => by rw [hm] at hm'; cases hm'⟩
        · obtain ⟨q, g1, g2, g3⟩ := hg'.blk i x h3
          exact ⟨q, hx2.rho _ _ g1, fun hm => (g2 hm).mono hx2 rfl, fun hm => (g3 hm).mono hx2 rfl⟩
      · obtain ⟨k, y1, a1, a2, a3⟩ := hold i x r hi hr
        obtain ⟨k', y2, b1, b2, b3⟩ := hold i' x' r' hi' hr'
        have hk := hg'.inj k k' y1 y2 r r' a1 b1 a2 b2 he
        rcases a3 with ⟨rfl, a4⟩ | ⟨rfl, a4⟩ <;> rcases b3 with ⟨rfl, b4⟩ | ⟨rfl, b4⟩
        · rfl
        · exact absurd (hk ▸ a4) b4
        · exact absurd (hk.trans b4) a4
        · exact hk
      · obtain ⟨k, y1, a1, a2, _⟩ := hold i x r hi hr
        exact hg'.sep k y1 r a1 a2
      · by_cases h1 : i = m
        · subst h1; rw [hρm] at hr; cases hr; exact hg'.own id p hp
        · rw [hρ i h1] at hr; exact hg'.own i r hr
    · by_cases h1 : i = m
      · right; have := H.1.2; omega
      · rw [hρ i h1] at hi
        rcases hd i hi with h2 | h2
        · exact .inl h2
        · right; omega
    · exact .view m off len p o cp hρm ho hl hm
  | _ => cases hvv
end Go.V
namespace Go.Proofs.Ytknnniaoboaghaa
open Go.V
set_option linter.unusedVariables false
set_option linter.unusedSimpArgs false
set_option maxRecDepth 20000
set_option maxHeartbeats 4000000
theorem delR {p A B : List (List V)} {x u : List V} : putR (putR (p ++ (A ++ x :: B)) (p.length + A.length) B) (p.length + (A.length + B.length)) [u] = (p ++ (A ++ B)) ++ [u] := by
 have e1 : p ++ (A ++ x :: B) = (p ++ A) ++ x :: B := by simp
 have e2 : putR (p ++ (A ++ x :: B)) (p.length + A.length) B = (p ++ A) ++ (B ++ (x :: B).drop B.length) := by
  rw [e1]; exact putR_A (by simp) (by simp)
 have e3 : ((x :: B).drop B.length).length = 1 := by simp
 obtain ⟨y, hy⟩ := List.length_eq_one_iff.1 e3
 rw [e2, hy]
 have e4 : (p ++ A) ++ (B ++ [y]) = (p ++ (A ++ B)) ++ [y] := by simp
 rw [e4, putR_A (by simp) (by simp)]
 simp
theorem lenD {P : List (List V)} (L : List Wt) (a b : Nat) (hp : P.length ≤ a) : ∀ c ∈ ((P ++ L.map wtV).drop a).take b, c.length = 2 := fun c hc => by
 have h1 := List.mem_of_mem_take hc
 rw [List.drop_append, List.drop_of_length_le hp, List.nil_append] at h1
 obtain ⟨w, _, rfl⟩ := List.mem_map.1 (List.mem_of_mem_drop h1); rfl
theorem o135c (pre : List (List V)) (L : List Wt) (i c : Nat) (hi : i < L.length) (hc : L.length ≤ c) (hL : L.length ≤ 1000) {wb : Nat} {h : Heap} {n : Nat} (hw : wb < n) (k1 : h wb = some ⟨pre ++ L.map wtV, 2, 123⟩) : V.Open En 135 [.vcap wb pre.length L.length c, .int .i64 i, .int .i64 ((i : Int) + 1)] h n (.vcap wb pre.length (L.length - 1) c) [(wb, some ⟨(pre ++ (L.take i ++ L.drop (i + 1)).map wtV) ++ [[.unk, .unk]], 2, 123⟩)] n := by
 refine V.Open.of_wp Try.func135 rfl kb ?_
 refine A2 (A0 (Z4 j5 (A3 (A1 (A2 (A0 (Z5 j5 (B5 j5 (B5 j5 (Z5 j5 (G7 rfl rfl rfl j3 ?_)))))))))))
 (apply rsl3 j6; exact Q2; exact Q2; exact Q2; exact Q2; exact j3)
 refine A3 (A1 (A2 (A2 (A0 (B5 j5 (B5 j5 ?_))))))
 refine H5 j6 (fun h => absurd h ((by omega))) ?_
 intro h2_2
 refine A3 (A1 (wF rfl (B2 (A1 (A2 (A0 (Z5 j5 (G7 rfl rfl rfl j3 (D1 j5 (A3 (A1 (A2 ?_))))))))))))
 refine B9 [0, 0, 3, 0, 0, 24, 63, 127] rfl (by decide +kernel) ?_
 refine dmK j5 (I2 j5 ?_)
 (apply dslc j3; exact Q0; exact j3; exact Q2; exact Q2; exact Q2; exact j3)
 refine dmK j5 (I2 j5 ?_)
 (apply dslcV j3; exact Q0; exact j3; exact Q2; exact Q2; exact Q2; exact j3)
 (apply dapi (s' := 16) rfl rfl; exact Q0; exact j2; exact Q2; exact j2; exact kz; (apply K0 rfl; exact Q0; (show _ ≤ (pre ++ L.map wtV).length; rw [List.length_append, List.length_map]; omega); rfl); exact lenD L _ _ (by omega); exact Q2; exact j3)
 refine daK j5 (B3 8 [0, 3, 1, 0, 0, 1, 0, 0] [] j2 (by decide +kernel) trivial ?_)
 refine A1 (A2 (A0 (Z5 j5 (Z5 j5 (G7 rfl rfl rfl j3 (B5 j5 ?_))))))
 (apply AE j3; exact Q0; exact j3; exact Q2; exact Q2; exact Q2; exact j3)
 (apply rclr (s' := 16) rfl rfl; exact Q0; exact j2; exact Q2; rfl; (show zeroOne _ 123 = true; kernel_rfl); exact kz; exact j2)
 refine A3 (A1 (A2 (A0 (Z5 j5 (raK j5 (A3 (A1 (B1 ?_))))))))
 refine F2 rfl (show V.vcap _ _ _ _ = _ from congr (congr (congrArg (V.vcap wb) (by first | rfl | omega | simp)) (by first | (simp; omega) | omega)) (by first | rfl | omega)) ?_ (Nat.le_refl _)
 refine K9 (fun jx hjx => ?_) (fun jx hjx hn => ?_)
 ·simp only [List.map_cons, List.map_nil, List.mem_cons, List.not_mem_nil, or_false] at hjx
  rw [hjx]
  (simp (disch := omega) only [↓appC, ↓updN, ↓updS, ↓app0])
  refine congrArg (fun z => some (Blk.mk z 2 123)) ?_
  obtain ⟨A, x, B, rfl, rfl⟩ : ∃ (A : List Wt) (x : Wt) (B : List Wt), L = A ++ x :: B ∧ A.length = i := ⟨L.take i, L[i], L.drop (i + 1), by rw [List.getElem_cons_drop, List.take_append_drop], by simp; omega⟩
  have q := delR (p := pre) (A := A.map wtV) (B := B.map wtV) (x := wtV x) (u := [.unk, .unk])
  have z0 : Int.toNat 0 = 0 := rfl
  have r1 : (A ++ x :: B).take A.length ++ (A ++ x :: B).drop (A.length + 1) = A ++ B := by simp
  rw [r1]
  simp only [List.map_append, List.map_cons, List.length_map] at q ⊢
  refine Eq.trans ?_ q
  have hlen : (A ++ x :: B).length = A.length + (B.length + 1) := by simp
  have d1 : pre.length + ((A.length : Int) + 1).toNat = (pre ++ (A.map wtV ++ [wtV x])).length := by simp <;> omega
  have d2 : List.drop (pre.length + ((A.length : Int) + 1).toNat) (pre ++ (A.map wtV ++ wtV x :: B.map wtV)) = B.map wtV := by
   rw [d1, show pre ++ (A.map wtV ++ wtV x :: B.map wtV) = (pre ++ (A.map wtV ++ [wtV x])) ++ B.map wtV by simp, List.drop_left]
  have d3 : List.take ((((A ++ x :: B).length : Nat) : Int).toNat - ((A.length : Int) + 1).toNat) (B.map wtV) = B.map wtV := List.take_of_length_le (by rw [hlen]; simp; omega)
  rw [d2, d3]
  simp only [List.length_map]
  have e1 : pre.length + Int.toNat 0 + ((A.length : Int).toNat - Int.toNat 0) = pre.length + A.length := by omega
  have e2 : ((((A.length : Int).toNat - Int.toNat 0 + B.length : Nat)) : Int).toNat = A.length + B.length := by omega
  rw [e1, e2, z0, Nat.add_zero, show (((A ++ x :: B).length : Nat) : Int).toNat - (A.length + B.length) = 1 by rw [hlen]; omega]
  rfl
 ·simp only [List.map_cons, List.map_nil, List.mem_cons, List.not_mem_nil, or_false, not_or] at hn
  (simp (disch := omega) only [↓appC, ↓updN, ↓updS, ↓app0])
theorem o135m (pre : List (List V)) (L : List Wt) (i : Nat) (hi : i < L.length) (hL : L.length ≤ 1000) {wb : Nat} {h : Heap} {n : Nat} (hw : wb < n) (k1 : h wb = some ⟨pre ++ L.map wtV, 2, 123⟩) :
  V.Open En 135 [.view wb pre.length L.length, .int .i64 i, .int .i64 ((i : Int) + 1)] h n (.view n pre.length (L.length - 1)) [(wb, none), (n, some ⟨pre ++ (L.take i ++ L.drop (i + 1)).map wtV, 2, 123⟩)] (n + 1) := by
 refine @V.Open.byCap _ _ [] [.int .i64 i, .int .i64 ((i : Int) + 1)] _ _ _ _ _ _ _ _ (fun c hc => ?_)
 have q := V.Open.aliasT (o135c pre L i c hi hc hL hw k1) (by simp only [app]; exact upd_same _ _ _) (pre.length + (L.length - 1))
 refine V.Open.lessW q (fun k b hb => ?_)
 have e : ((pre ++ (L.take i ++ L.drop (i + 1)).map wtV) ++ [[V.unk, V.unk]]).take (pre.length + (L.length - 1)) = pre ++ (L.take i ++ L.drop (i + 1)).map wtV := by
  rw [List.take_append_of_le_length (by simp; omega), List.take_of_length_le (by simp; omega)]
 dsimp only at q ⊢
 rw [e]
 simp only [app, List.cons_append, List.nil_append] at hb ⊢
 by_cases h1 : k = n
 ·subst h1; rw [upd_same] at hb ⊢; exact hb
 ·rw [B8 _ _ h1] at hb ⊢
  by_cases h2 : k = wb
  ·subst h2; rw [upd_same] at hb; cases hb
  ·rw [B8 _ _ h2] at hb ⊢; rw [B8 _ _ h2]; exact hb
open Go.V
set_option linter.unusedVariables false
set_option linter.unusedSimpArgs false
set_option maxRecDepth 20000
set_option maxHeartbeats 4000000
theorem G8 (k : Nat) : 0 + (k : Int).toNat = k := by omega
def TabS (t : Tb) (id : Nat) (F : Nat → Prop) (n : Nat) (h g : Heap) (m : Nat) : Prop :=
 ∃ Sl Ss W, TabM t id Sl Ss W g m ∧ (∀ a, OwnT id Sl Ss W t.lk.length a → F a ∨ n ≤ a) ∧ (∀ a, a < n → ¬ F a → g a = h a) ∧ n ≤ m
theorem TabM.same {t : Tb} {id : Nat} {Sl Ss : V} {W : Nat → V} {h g : Heap} {n m : Nat} (T : TabM t id Sl Ss W h n) (hm : n ≤ m) (e : ∀ a, a < n → g a = h a) : TabS t id (OwnT id Sl Ss W t.lk.length) n h g m :=
 ⟨Sl, Ss, W, T.ext hm e, fun a o => .inl o, fun a ha _ => e a ha, hm⟩
theorem TabM.lockS {t : Tb} {id : Nat} {Sl Ss : V} {W : Nat → V} {h g : Heap} {n m : Nat} (T : TabM t id Sl Ss W h n) {k : Nat} (hk : k < t.lk.length) {lb len : Nat} (hSl : Sl = .view lb 0 len) (l : Lk) (w : V) (nx : Int) (hnm : n ≤ m)
  (g1 : g id = some ⟨[[.int .i64 t.tm, .int .i64 nx, Sl, Ss]], 4, 35⟩) (g2 : g lb = some ⟨(rwW t.lk W).set k (l.V w), 5, 29⟩) (g3 : IsL g w (l.ws.map wtV) 2 123) (g4 : ∀ a, fpV w = some a → a < m ∧ (fpV (W k) = some a ∨ n ≤ a))
  (g5 : ∀ a, a < n → a ≠ id → a ≠ lb → fpV (W k) ≠ some a → g a = h a) : TabS ⟨t.tm, nx, t.lk.set k l, t.sn⟩ id (OwnT id Sl Ss W t.lk.length) n h g m := by
 have hlen : (t.lk.set k l).length = t.lk.length := List.length_set
 refine ⟨Sl, Ss, _, T.setLk hk hSl l w t.tm nx hnm g1 g2 g3 g4 (fun a o h1 h2 h3 => g5 a (T.lt o) h1 h2 h3), fun a o => ?_, fun a ha hna => ?_, hnm⟩
 ·rcases o with h | h | h | ⟨i, hi, h⟩
  ·exact .inl (.inl h)
  ·exact .inl (.inr (.inl h))
  ·exact .inl (.inr (.inr (.inl h)))
  ·have hi' : i < t.lk.length := by rw [← hlen]; exact hi
   dsimp only at h
   by_cases e : i = k
   ·rw [if_pos e] at h
    rcases (g4 a h).2 with h2 | h2
    ·exact .inl (.inr (.inr (.inr ⟨k, hk, h2⟩)))
    ·exact .inr h2
   ·rw [if_neg e] at h
    exact .inl (.inr (.inr (.inr ⟨i, hi', h⟩)))
 ·exact g5 a ha (fun e => hna (.inl e)) (fun e => hna (.inr (.inl (by rw [hSl, e]; rfl)))) (fun e => hna (.inr (.inr (.inr ⟨k, hk, e⟩))))
theorem F6 {t : Tb} {r : Rq} (h : hit r.nm t.lk) : acqT t r = acqL t (pos r.nm t.lk) r := if_pos h
theorem acqT_no {t : Tb} {r : Rq} (h : ¬ hit r.nm t.lk) (h4 : t.lk.length = 4) : acqT t r = (t, bareA 6) := by unfold acqT; rw [if_neg h, if_pos h4]
theorem U2 {t : Tb} {r : Rq} (h : ¬ hit r.nm t.lk) (h4 : ¬ t.lk.length = 4) : acqT t r = (⟨t.tm, t.nx + 1, insL t.lk (pos r.nm t.lk) ⟨r.nm, t.nx, r.cl, t.tm + r.le, []⟩, t.sn⟩, ⟨1, t.nx, r.cl, t.tm + r.le⟩) := by unfold acqT; rw [if_neg h, if_neg h4]
def An.V (a : An) : List V := [.int .i64 a.kd, .int .i64 a.tk, .int .i64 a.hd, .int .i64 a.ex]
theorem Y0 {α : Type} {A B : List α} {x y : α} {k : Nat} (h : A.length = k) : (A ++ x :: B).set k y = A ++ y :: B := by
 subst h; rw [List.set_append_right _ _ (Nat.le_refl _), Nat.sub_self]; rfl
theorem AX {α : Type} {A B : List α} {x : α} {k : Nat} (h : A.length = k) : (A ++ x :: B)[k]? = some x := by
 subst h; rw [List.getElem?_append_right (Nat.le_refl _), Nat.sub_self]; rfl
structure Bd (t : Tb) (r : Rq) : Prop where
 srt : Srt t.lk
 l4 : t.lk.length ≤ 4
 w4 : ∀ i, i < t.lk.length → (t.lk.getD i Lk0).ws.length ≤ 4
 wl : ∀ j, j < t.lk.length → ∀ i, i < (t.lk.getD j Lk0).ws.length → 1 ≤ ((t.lk.getD j Lk0).ws.getD i (0, 0)).2 ∧ ((t.lk.getD j Lk0).ws.getD i (0, 0)).2 ≤ 1000
 tm : 0 ≤ t.tm ∧ t.tm ≤ 1000000000
 nx : 0 ≤ t.nx ∧ t.nx ≤ 999990
 cl : 0 ≤ r.cl ∧ r.cl ≤ 255
 le : 0 ≤ r.le ∧ r.le ≤ 1000
theorem o134h (t : Tb) (r : Rq) (bd : Bd t r) (hh : hit r.nm t.lk) {k : Nat} (hp : pos r.nm t.lk = k) {id lb : Nat} {Ss : V} {W : Nat → V} {h : Heap} {n : Nat} (T : TabM t id (.view lb 0 t.lk.length) Ss W h n) : OpenM En 134 [.ptr id 0 0, .agg [.int .i64 r.cl, .int .i64 r.st, .int .i64 r.kd, .int .i64 r.le, .str r.nm]] h n (fun v g m => v = .agg (acqT t r).2.V ∧ TabS (acqT t r).1 id (OwnT id (.view lb 0 t.lk.length) Ss W t.lk.length) n h g m) := by
 have hid := T.idn
 have kid := T.kid
 have hl4 := bd.l4; have htm := bd.tm; have hnx := bd.nx; have hcl := bd.cl; have hle := bd.le
 have hf := fun (h : Heap) (n : Nat) (T : TabM t id (.view lb 0 t.lk.length) Ss W h n) => o48y t W r.nm bd.srt (by omega) hh T
 rw [hp] at hf
 have hk : k < t.lk.length := by rw [← hp]; exact hh.1
 have hR : k < (rwW t.lk W).length := by rw [B6]; exact hk
 have hw4 := bd.w4 k hk
 have klb : h lb = some ⟨rwW t.lk W, 5, 29⟩ := by
  rcases T.kl with ⟨e, _⟩ | ⟨b, e, q⟩
  ·cases e
  ·injection e with e1 e2 e3; rw [e1]; exact q
 have hlb := T.fl lb rfl
 have hne := hlb.2
 have hkw := T.kw k hk
 have hfw := fun a ha => (T.fw k a hk ha)
 have hfw := fun a ha => (⟨(hfw a ha).1, (hfw a ha).2.1, fun e => (hfw a ha).2.2.1 (by rw [e]; rfl)⟩ : a < n ∧ a ≠ id ∧ a ≠ lb)
 have hrow := G5 (W := W) hk
 generalize hl : t.lk.getD k Lk0 = l at hkw hrow hw4
 generalize hwk : W k = w at hkw hrow hfw
 have hwc := hkw.cell
 unfold Lk.V at hrow
 rcases hkw with ⟨rfl, hws⟩ | ⟨wb, pre, hw, kwb⟩
 ·have hkw : IsL h .nsl (l.ws.map wtV) 2 123 := .inl ⟨rfl, hws⟩
  have hwz : l.ws.length = 0 := by rw [List.map_eq_nil_iff.1 hws]; rfl
  refine OpenM.of_wp Try.func134 rfl kb ?_
  refine A2 (A0 (K7 (u := .agg [.int _ _, .int _ _, .int _ _, .int _ _, .str _]) j3 rfl j3 (H3 j6 (A3 (A1 (A2 (A0 (D9 j5 (C2 (off := 4) (s := 1) (r := false) j3 kz j3 ?_)))))))))
  (apply C6 (v := .str _) j2; exact Q0; exact Q1; exact j5)
  refine I7 (hf _ _ (T.ext (by omega) (fun a ha => by (simp (disch := (first | omega | assumption)) only [↓appC, ↓updN, ↓updS, ↓app0])))) rfl rfl rfl rfl rfl rfl ?_
  refine rmT j5 (T8 j6 (T8 j6 (D1 j5 (C3 j5 (A3 (A1 (A2 (A2 (A0 (C7 j5 (E1 (c := true) j5 (A3 ?_))))))))))))
  refine A1 (wF rfl (B2 (A1 (A2 (A0 (D9 j5 (F8 (v := .ptr _ _ _) j6 (C2 (off := 2) (s := 1) (r := false) j3 kz j3 ?_))))))))
  (apply C6 (v := .view _ _ _) j2; exact Q0; exact Q1; exact j5)
  refine B5 j5 ?_
  (refine r0 ((C1 (b := ⟨rwW t.lk W, 5, 29⟩) rfl rfl rfl rfl (by exact Q0) rfl (by omega) (by omega)).to (v' := .ptr (lb) k 0) (by rw [G8])) rfl rfl rfl ?_)
  refine raP j5 (A3 (A1 (A2 (B4 (A2 (B9 [0, 1, 3, 7, 0, 16, 63, 127, 255, 511, 1023, 255, 2303, 8191, 16383, 32767, 65535] rfl (by decide +kernel) ?_))))))
  refine G9 j5 (H0 (v := .ptr _ _ _) j6 (C9 (off := 2) (s := 1) (r := false) j3 kz j3 ?_))
  (apply D5 (v := .int _ _) j2; exact Q0; exact Q1; exact j5)
  refine C9 (off := 0) (s := 1) (r := false) j3 kz j3 ?_
  (apply D5 (v := .int _ _) j2; exact Q0; exact Q1; exact j5)
  refine deq j6 ?_ ?_ <;> intro h7_6
  ·refine F9 j5 (A5 j3 (A5 j3 (A5 j3 (A5 j3 (A5 j3 (A5 j3 (A5 j3 (F4 (e := true) j6 (P3 j5 (B3 17 [0, 0, 0, 0, 0, 0, 0, 0, 0, 0, 0, 1, 0, 1, 0, 0, 0] [] j2 (by decide +kernel) trivial ?_))))))))))
   refine A1 (wT rfl (A2 (A0 (D9 j5 (I7 (L0 l.nm l.tk l.hd l.ex 8 V.nsl (lb := lb) (j := k) (R := (rwW t.lk W)) ?_ ?_ ?_) rfl rfl rfl rfl rfl rfl ?_)))))
   ·exact J8
   ·exact J8
   ·exact J8
   (apply D6 (u := .agg [.int _ _, .int _ _, .int _ _, .int _ _]) j3; exact Q0; exact Q1; rfl; rfl; rfl; rfl; exact kb; rfl; exact j2)
   refine A3 (A1 (B1 (A8 (B0 (E0 (A6 (A7 rfl (by exact Q0) j2 kb rfl) A9) (by (repeat first | exact Ch.refl _ | refine Ch.upd ?_ | refine Ch.app ?_ | assumption)) ?_)))))
   have e : acqT t r = (t, tellL 8 l) := by
    rw [F6 hh, hp]; unfold acqL; rw [hl]; exact if_pos (by first | exact .inl h7_6 | exact .inr h7_14)
   rw [e]
   exact ⟨rfl, T.same (by omega) (fun a ha => by (simp (disch := (first | omega | assumption)) only [↓appC, ↓updN, ↓updS, ↓app0]))⟩
  ·refine F9 j5 (G9 j5 (H0 (v := .ptr _ _ _) j6 ?_))
   (apply L8 (vs := [.str _, .int _ _, .int _ _, .int _ _, _]) j2; exact Q0; exact Q1; rfl; exact kb; exact j4)
   refine C9 (off := 0) (s := 1) (r := false) j3 kz j3 ?_
   (apply D5 (v := .int _ _) j2; exact Q0; exact Q1; exact j5)
   apply O5 [lb] (p66 l false r.cl (by omega)) rfl j2
   ·exact SnapL.cons _ _ _ _ (SnapC.agg (.cons _ _ _ _ (.str _) (.cons _ _ _ _ (.int _ _) (.cons _ _ _ _ (.int _ _) (.cons _ _ _ _ (.int _ _) (.cons _ _ _ _ (D7 (hkw.mono (fun a ha => by have q := hfw a ha; (simp (disch := (first | omega | assumption)) only [↓appC, ↓updN, ↓updS, ↓app0]))) (fun a ha => by cases ha)) .nil)))))) (SnapL.cons _ _ _ _ (.one _ _ (.int _ _)) SnapL.nil)
   ·rfl
   ·rfl
   ·rfl
   refine dge j6 ?_ ?_ <;> intro h7_14
   ·refine F4 (e := true) j6 (P3 j5 (B3 17 [0, 0, 0, 1, 1, 0, 1, 0, 0, 0, 0, 1, 0, 1, 0, 0, 0] [] j2 (by decide +kernel) trivial ?_))
    refine A1 (wT rfl (A2 (A0 (D9 j5 (I7 (L0 l.nm l.tk l.hd l.ex 8 V.nsl (lb := lb) (j := k) (R := (rwW t.lk W)) ?_ ?_ ?_) rfl rfl rfl rfl rfl rfl ?_)))))
    ·exact J8
    ·exact J8
    ·exact J8
    (apply D6 (u := .agg [.int _ _, .int _ _, .int _ _, .int _ _]) j3; exact Q0; exact Q1; rfl; rfl; rfl; rfl; exact kb; rfl; exact j2)
    refine A3 (A1 (B1 (A8 (B0 (E0 (A6 (A7 rfl (by exact Q0) j2 kb rfl) A9) (by (repeat first | exact Ch.refl _ | refine Ch.upd ?_ | refine Ch.app ?_ | assumption)) ?_)))))
    have e : acqT t r = (t, tellL 8 l) := by
     rw [F6 hh, hp]; unfold acqL; rw [hl]; exact if_pos (by first | exact .inl h7_6 | exact .inr h7_14)
    rw [e]
    exact ⟨rfl, T.same (by omega) (fun a ha => by (simp (disch := (first | omega | assumption)) only [↓appC, ↓updN, ↓updS, ↓app0]))⟩
   ·refine F4 (e := false) j6 (P3 j5 (B3 17 [0, 0, 0, 1, 1, 0, 1, 0, 0, 0, 0, 1, 0, 1, 0, 0, 0] [] j2 (by decide +kernel) trivial ?_))
    refine A1 (wF rfl (A2 (A0 (D9 j5 (F8 (v := .ptr _ _ _) j6 (C2 (off := 2) (s := 1) (r := false) j3 kz j3 ?_))))))
    (apply C6 (v := .int _ _) j2; exact Q0; exact Q1; exact j5)
    refine H5 j6 ?_ ?_ <;> intro h9_4
    ·refine C3 j5 (A3 (A1 (wT rfl (A2 (A0 (D9 j5 (D9 j5 (C2 (off := 0) (s := 1) (r := false) j3 kz j3 ?_))))))))
     (apply C6 (v := .int _ _) j2; exact Q0; exact Q1; exact j5)
     refine C2 (off := 3) (s := 1) (r := false) j3 kz j3 ?_
     (apply C6 (v := .int _ _) j2; exact Q0; exact Q1; exact j5)
     refine I7 (o125 l.nm l.tk l.hd l.ex t.tm t.nx r.cl r.le V.nsl (.view lb 0 t.lk.length) Ss hwc htm (by omega) hle (id := id) (lb := lb) (j := k) (R := rwW t.lk W) ?_ ?_ ?_ ?_ ?_ ?_ ?_) rfl rfl rfl rfl rfl rfl ?_
     ·exact J8
     ·exact J8
     ·exact J8
     ·exact J8
     ·exact J8
     ·exact J8
     ·exact J8
     refine A3 (A1 (A2 (A0 (D9 j5 (I7 (L0 l.nm t.nx r.cl (t.tm + r.le) 1 V.nsl (lb := lb) (j := k) (R := ((rwW t.lk W).set k [.str l.nm, .int .i64 t.nx, .int .i64 r.cl, .int .i64 (t.tm + r.le), V.nsl])) ?_ ?_ ?_) rfl rfl rfl rfl rfl rfl ?_)))))
     ·exact J8
     ·exact J8
     ·exact J8
     (apply D6 (u := .agg [.int _ _, .int _ _, .int _ _, .int _ _]) j3; exact Q0; exact Q1; rfl; rfl; rfl; rfl; exact kb; rfl; exact j2)
     refine A3 (A1 (B1 (A8 (B0 (E0 (A6 (A7 rfl (by exact Q0) j2 kb rfl) A9) (by (repeat first | exact Ch.refl _ | refine Ch.upd ?_ | refine Ch.app ?_ | assumption)) ?_)))))
     have e : acqT t r = (⟨t.tm, t.nx + 1, t.lk.set k ⟨l.nm, t.nx, r.cl, t.tm + r.le, l.ws⟩, t.sn⟩, ⟨1, t.nx, r.cl, t.tm + r.le⟩) := by
      rw [F6 hh, hp]; unfold acqL; rw [hl, if_neg (fun e => e.elim h7_6 h7_14), if_pos h9_4]
     rw [e]
     refine ⟨rfl, T.lockS hk rfl ⟨l.nm, t.nx, r.cl, t.tm + r.le, l.ws⟩ V.nsl (t.nx + 1) (by omega) ?_ ?_ ?_ ?_ ?_⟩
     ·exact Q0
     ·(simp (disch := (first | omega | assumption)) only [↓appC, ↓updN, ↓updS, ↓app0]); rfl
     ·exact hkw.mono (fun a ha => by have q := hfw a ha; have q1 := q.1; have q2 := q.2.1; have q3 := q.2.2; (simp (disch := (first | omega | assumption)) only [↓appC, ↓updN, ↓updS, ↓app0]))
     ·intro a ha; have q := hfw a ha; exact ⟨by omega, .inl (by rw [hwk]; exact ha)⟩
     ·intro a ha h1 h2 h3; (simp (disch := (first | omega | assumption)) only [↓appC, ↓updN, ↓updS, ↓app0])
    ·refine C3 j5 (A3 (A1 (wF rfl (A2 (A0 (D9 j5 (F8 (v := .ptr _ _ _) j6 (C2 (off := 4) (s := 1) (r := false) j3 kz j3 ?_))))))))
     (apply C6 (v := .nsl) j2; exact Q0; exact Q1; exact j5)
     refine G7 rfl rfl rfl j3 ?_
     refine H5 j6 ?_ ?_ <;> intro h12_5
     ·refine C3 j5 (A3 (A1 (wT rfl (A2 (A0 (D9 j5 (I7 (L0 l.nm l.tk l.hd l.ex 6 V.nsl (lb := lb) (j := k) (R := (rwW t.lk W)) ?_ ?_ ?_) rfl rfl rfl rfl rfl rfl ?_)))))))
      ·exact J8
      ·exact J8
      ·exact J8
      (apply D6 (u := .agg [.int _ _, .int _ _, .int _ _, .int _ _]) j3; exact Q0; exact Q1; rfl; rfl; rfl; rfl; exact kb; rfl; exact j2)
      refine A3 (A1 (B1 (A8 (B0 (E0 (A6 (A7 rfl (by exact Q0) j2 kb rfl) A9) (by (repeat first | exact Ch.refl _ | refine Ch.upd ?_ | refine Ch.app ?_ | assumption)) ?_)))))
      have e : acqT t r = (t, tellL 6 l) := by
       rw [F6 hh, hp]; unfold acqL; rw [hl, if_neg (fun e => e.elim h7_6 h7_14), if_neg h9_4]; exact if_pos (by omega)
      rw [e]
      exact ⟨rfl, T.same (by omega) (fun a ha => by (simp (disch := (first | omega | assumption)) only [↓appC, ↓updN, ↓updS, ↓app0]))⟩
     ·refine C3 j5 (A3 (A1 (wF rfl (B2 (C0 (A1 (A2 (B9 [0, 0, 2, 6, 14, 0, 32, 0, 128, 480, 992, 2046, 4095, 8191, 16383] rfl (by decide +kernel) ?_))))))))
      refine G9 j5 (G9 j5 (H0 (v := .ptr _ _ _) j6 (C9 (off := 4) (s := 1) (r := false) j3 kz j3 ?_)))
      (apply D5 (v := .nsl) j2; exact Q0; exact Q1; exact j5)
      refine C9 (off := 0) (s := 1) (r := false) j3 kz j3 ?_
      (apply D5 (v := .int _ _) j2; exact Q0; exact Q1; exact j5)
      refine C9 (off := 3) (s := 1) (r := false) j3 kz j3 ?_
      (apply D5 (v := .int _ _) j2; exact Q0; exact Q1; exact j5)
      refine dbd (cs := [.int _ _, .int _ _]) j5 (X6 (es := [[.int _ _, .int _ _]]) j4 kz kb rfl rfl j3 ?_)
      (apply dan (s' := 16) (es := [[.int _ _, .int _ _]]) rfl j3 kz; exact S4; exact AT; exact Q16; exact Q16; exact Q16; exact j3)
      refine H0 (v := .ptr _ _ _) j6 (C9 (off := 4) (s := 1) (r := false) j3 kz j3 ?_)
      (apply dst (u := .view _ _ _) rfl rfl rfl; exact Q0; exact Q1; rfl; rfl; rfl; rfl; exact kb; rfl; rfl; rfl)
      refine B3 15 [3, 0, 0, 3, 3, 0, 1, 0, 1, 0, 1, 0, 0, 0, 0] [(4, 10)] j2 (by decide +kernel) ?_ ?_
      ·(simp [ClearL, ids]; try omega)
      refine A1 (A2 (A0 (D9 j5 (I7 (L0 l.nm l.tk l.hd l.ex 2 (V.view (n + 1 + 1 + t.lk.length + 1 + 1) 0 1) (lb := lb) (j := k) (R := (rwW t.lk W).set k [.str l.nm, .int .i64 l.tk, .int .i64 l.hd, .int .i64 l.ex, (V.view (n + 1 + 1 + t.lk.length + 1 + 1) 0 1)]) ?_ ?_ (List.getElem?_set_self hR)) rfl rfl rfl rfl rfl rfl ?_))))
      ·exact J8
      ·exact J8
      (apply D6 (u := .agg [.int _ _, .int _ _, .int _ _, .int _ _]) j3; exact Q0; exact Q1; rfl; rfl; rfl; rfl; exact kb; rfl; exact j2)
      refine A3 (A1 (B1 (E0 (A6 (A7 rfl (by exact Q0) j2 kb rfl) A9) (by (repeat first | exact Ch.refl _ | refine Ch.upd ?_ | refine Ch.app ?_ | assumption)) ?_)))
      have e : acqT t r = (⟨t.tm, t.nx, t.lk.set k ⟨l.nm, l.tk, l.hd, l.ex, l.ws ++ [(r.cl, r.le)]⟩, t.sn⟩, tellL 2 l) := by
       rw [F6 hh, hp]; unfold acqL; rw [hl, if_neg (fun e => e.elim h7_6 h7_14), if_neg h9_4]; exact if_neg (by omega)
      rw [e]
      refine ⟨rfl, T.lockS hk rfl ⟨l.nm, l.tk, l.hd, l.ex, l.ws ++ [(r.cl, r.le)]⟩ (V.view (n + 1 + 1 + t.lk.length + 1 + 1) 0 1) t.nx (by omega) ?_ ?_ ?_ ?_ ?_⟩
      ·exact Q0
      ·(simp (disch := (first | omega | assumption)) only [↓appC, ↓updN, ↓updS, ↓app0]); rfl
      ·refine .inr ⟨n + 1 + 1 + t.lk.length + 1 + 1, [], by simp [List.map_eq_nil_iff.1 hws], ?_⟩
       (simp (disch := (first | omega | assumption)) only [↓appC, ↓updN, ↓updS, ↓app0])
       exact congrArg (fun z => some (Blk.mk z 2 123)) (by simp [List.map_eq_nil_iff.1 hws, wtV])
      ·intro a ha; cases ha; exact ⟨by omega, .inr (by omega)⟩
      ·intro a ha h1 h2 h3; (simp (disch := (first | omega | assumption)) only [↓appC, ↓updN, ↓updS, ↓app0])
 ·rw [List.length_map] at hw
  subst hw
  have hwb := hfw wb rfl
  have hkw : IsL h (.view wb pre.length l.ws.length) (l.ws.map wtV) 2 123 := .inr ⟨wb, pre, by rw [List.length_map], kwb⟩
  refine OpenM.of_wp Try.func134 rfl kb ?_
  refine A2 (A0 (K7 (u := .agg [.int _ _, .int _ _, .int _ _, .int _ _, .str _]) j3 rfl j3 (H3 j6 (A3 (A1 (A2 (A0 (D9 j5 (C2 (off := 4) (s := 1) (r := false) j3 kz j3 ?_)))))))))
  (apply C6 (v := .str _) j2; exact Q0; exact Q1; exact j5)
  refine I7 (hf _ _ (T.ext (by omega) (fun a ha => by (simp (disch := (first | omega | assumption)) only [↓appC, ↓updN, ↓updS, ↓app0])))) rfl rfl rfl rfl rfl rfl ?_
  refine rmT j5 (T8 j6 (T8 j6 (D1 j5 (C3 j5 (A3 (A1 (A2 (A2 (A0 (C7 j5 (E1 (c := true) j5 (A3 ?_))))))))))))
  refine A1 (wF rfl (B2 (A1 (A2 (A0 (D9 j5 (F8 (v := .ptr _ _ _) j6 (C2 (off := 2) (s := 1) (r := false) j3 kz j3 ?_))))))))
  (apply C6 (v := .view _ _ _) j2; exact Q0; exact Q1; exact j5)
  refine B5 j5 ?_
  (refine r0 ((C1 (b := ⟨rwW t.lk W, 5, 29⟩) rfl rfl rfl rfl (by exact Q0) rfl (by omega) (by omega)).to (v' := .ptr (lb) k 0) (by rw [G8])) rfl rfl rfl ?_)
  refine raP j5 (A3 (A1 (A2 (B4 (A2 (B9 [0, 1, 3, 7, 0, 16, 63, 127, 255, 511, 1023, 255, 2303, 8191, 16383, 32767, 65535] rfl (by decide +kernel) ?_))))))
  refine G9 j5 (H0 (v := .ptr _ _ _) j6 (C9 (off := 2) (s := 1) (r := false) j3 kz j3 ?_))
  (apply D5 (v := .int _ _) j2; exact Q0; exact Q1; exact j5)
  refine C9 (off := 0) (s := 1) (r := false) j3 kz j3 ?_
  (apply D5 (v := .int _ _) j2; exact Q0; exact Q1; exact j5)
  refine deq j6 ?_ ?_ <;> intro h7_6
  ·refine F9 j5 (A5 j3 (A5 j3 (A5 j3 (A5 j3 (A5 j3 (A5 j3 (A5 j3 (F4 (e := true) j6 (P3 j5 (B3 17 [0, 0, 0, 0, 0, 0, 0, 0, 0, 0, 0, 1, 0, 1, 0, 0, 0] [] j2 (by decide +kernel) trivial ?_))))))))))
   refine A1 (wT rfl (A2 (A0 (D9 j5 (I7 (L0 l.nm l.tk l.hd l.ex 8 (V.view wb pre.length l.ws.length) (lb := lb) (j := k) (R := (rwW t.lk W)) ?_ ?_ ?_) rfl rfl rfl rfl rfl rfl ?_)))))
   ·exact J8
   ·exact J8
   ·exact J8
   (apply D6 (u := .agg [.int _ _, .int _ _, .int _ _, .int _ _]) j3; exact Q0; exact Q1; rfl; rfl; rfl; rfl; exact kb; rfl; exact j2)
   refine A3 (A1 (B1 (A8 (B0 (E0 (A6 (A7 rfl (by exact Q0) j2 kb rfl) A9) (by (repeat first | exact Ch.refl _ | refine Ch.upd ?_ | refine Ch.app ?_ | assumption)) ?_)))))
   have e : acqT t r = (t, tellL 8 l) := by
    rw [F6 hh, hp]; unfold acqL; rw [hl]; exact if_pos (by first | exact .inl h7_6 | exact .inr h7_14)
   rw [e]
   exact ⟨rfl, T.same (by omega) (fun a ha => by (simp (disch := (first | omega | assumption)) only [↓appC, ↓updN, ↓updS, ↓app0]))⟩
  ·refine F9 j5 (G9 j5 (H0 (v := .ptr _ _ _) j6 ?_))
   (apply L8 (vs := [.str _, .int _ _, .int _ _, .int _ _, _]) j2; exact Q0; exact Q1; rfl; exact kb; exact j4)
   refine C9 (off := 0) (s := 1) (r := false) j3 kz j3 ?_
   (apply D5 (v := .int _ _) j2; exact Q0; exact Q1; exact j5)
   apply O5 [wb] (p66 l false r.cl (by omega)) rfl j2
   ·exact SnapL.cons _ _ _ _ (SnapC.agg (.cons _ _ _ _ (.str _) (.cons _ _ _ _ (.int _ _) (.cons _ _ _ _ (.int _ _) (.cons _ _ _ _ (.int _ _) (.cons _ _ _ _ (D7 (hkw.mono (fun a ha => by have q := hfw a ha; (simp (disch := (first | omega | assumption)) only [↓appC, ↓updN, ↓updS, ↓app0]))) (fun a ha => by cases ha; exact List.mem_singleton.2 rfl)) .nil)))))) (SnapL.cons _ _ _ _ (.one _ _ (.int _ _)) SnapL.nil)
   ·rfl
   ·rfl
   ·rfl
   refine dge j6 ?_ ?_ <;> intro h7_14
   ·refine F4 (e := true) j6 (P3 j5 (B3 17 [0, 0, 0, 1, 1, 0, 1, 0, 0, 0, 0, 1, 0, 1, 0, 0, 0] [] j2 (by decide +kernel) trivial ?_))
    refine A1 (wT rfl (A2 (A0 (D9 j5 (I7 (L0 l.nm l.tk l.hd l.ex 8 (V.view wb pre.length l.ws.length) (lb := lb) (j := k) (R := (rwW t.lk W)) ?_ ?_ ?_) rfl rfl rfl rfl rfl rfl ?_)))))
    ·exact J8
    ·exact J8
    ·exact J8
    (apply D6 (u := .agg [.int _ _, .int _ _, .int _ _, .int _ _]) j3; exact Q0; exact Q1; rfl; rfl; rfl; rfl; exact kb; rfl; exact j2)
    refine A3 (A1 (B1 (A8 (B0 (E0 (A6 (A7 rfl (by exact Q0) j2 kb rfl) A9) (by (repeat first | exact Ch.refl _ | refine Ch.upd ?_ | refine Ch.app ?_ | assumption)) ?_)))))
    have e : acqT t r = (t, tellL 8 l) := by
     rw [F6 hh, hp]; unfold acqL; rw [hl]; exact if_pos (by first | exact .inl h7_6 | exact .inr h7_14)
    rw [e]
    exact ⟨rfl, T.same (by omega) (fun a ha => by (simp (disch := (first | omega | assumption)) only [↓appC, ↓updN, ↓updS, ↓app0]))⟩
   ·refine F4 (e := false) j6 (P3 j5 (B3 17 [0, 0, 0, 1, 1, 0, 1, 0, 0, 0, 0, 1, 0, 1, 0, 0, 0] [] j2 (by decide +kernel) trivial ?_))
    refine A1 (wF rfl (A2 (A0 (D9 j5 (F8 (v := .ptr _ _ _) j6 (C2 (off := 2) (s := 1) (r := false) j3 kz j3 ?_))))))
    (apply C6 (v := .int _ _) j2; exact Q0; exact Q1; exact j5)
    refine H5 j6 ?_ ?_ <;> intro h9_4
    ·refine C3 j5 (A3 (A1 (wT rfl (A2 (A0 (D9 j5 (D9 j5 (C2 (off := 0) (s := 1) (r := false) j3 kz j3 ?_))))))))
     (apply C6 (v := .int _ _) j2; exact Q0; exact Q1; exact j5)
     refine C2 (off := 3) (s := 1) (r := false) j3 kz j3 ?_
     (apply C6 (v := .int _ _) j2; exact Q0; exact Q1; exact j5)
     refine I7 (o125 l.nm l.tk l.hd l.ex t.tm t.nx r.cl r.le (V.view wb pre.length l.ws.length) (.view lb 0 t.lk.length) Ss hwc htm (by omega) hle (id := id) (lb := lb) (j := k) (R := rwW t.lk W) ?_ ?_ ?_ ?_ ?_ ?_ ?_) rfl rfl rfl rfl rfl rfl ?_
     ·exact J8
     ·exact J8
     ·exact J8
     ·exact J8
     ·exact J8
     ·exact J8
     ·exact J8
     refine A3 (A1 (A2 (A0 (D9 j5 (I7 (L0 l.nm t.nx r.cl (t.tm + r.le) 1 (V.view wb pre.length l.ws.length) (lb := lb) (j := k) (R := ((rwW t.lk W).set k [.str l.nm, .int .i64 t.nx, .int .i64 r.cl, .int .i64 (t.tm + r.le), (V.view wb pre.length l.ws.length)])) ?_ ?_ ?_) rfl rfl rfl rfl rfl rfl ?_)))))
     ·exact J8
     ·exact J8
     ·exact J8
     (apply D6 (u := .agg [.int _ _, .int _ _, .int _ _, .int _ _]) j3; exact Q0; exact Q1; rfl; rfl; rfl; rfl; exact kb; rfl; exact j2)
     refine A3 (A1 (B1 (A8 (B0 (E0 (A6 (A7 rfl (by exact Q0) j2 kb rfl) A9) (by (repeat first | exact Ch.refl _ | refine Ch.upd ?_ | refine Ch.app ?_ | assumption)) ?_)))))
     have e : acqT t r = (⟨t.tm, t.nx + 1, t.lk.set k ⟨l.nm, t.nx, r.cl, t.tm + r.le, l.ws⟩, t.sn⟩, ⟨1, t.nx, r.cl, t.tm + r.le⟩) := by
      rw [F6 hh, hp]; unfold acqL; rw [hl, if_neg (fun e => e.elim h7_6 h7_14), if_pos h9_4]
     rw [e]
     refine ⟨rfl, T.lockS hk rfl ⟨l.nm, t.nx, r.cl, t.tm + r.le, l.ws⟩ (V.view wb pre.length l.ws.length) (t.nx + 1) (by omega) ?_ ?_ ?_ ?_ ?_⟩
     ·exact Q0
     ·(simp (disch := (first | omega | assumption)) only [↓appC, ↓updN, ↓updS, ↓app0]); rfl
     ·exact hkw.mono (fun a ha => by have q := hfw a ha; have q1 := q.1; have q2 := q.2.1; have q3 := q.2.2; (simp (disch := (first | omega | assumption)) only [↓appC, ↓updN, ↓updS, ↓app0]))
     ·intro a ha; have q := hfw a ha; exact ⟨by omega, .inl (by rw [hwk]; exact ha)⟩
     ·intro a ha h1 h2 h3; (simp (disch := (first | omega | assumption)) only [↓appC, ↓updN, ↓updS, ↓app0])
    ·refine C3 j5 (A3 (A1 (wF rfl (A2 (A0 (D9 j5 (F8 (v := .ptr _ _ _) j6 (C2 (off := 4) (s := 1) (r := false) j3 kz j3 ?_))))))))
     (apply C6 (v := .view _ _ _) j2; exact Q0; exact Q1; exact j5)
     refine G7 rfl rfl rfl j3 ?_
     refine H5 j6 ?_ ?_ <;> intro h12_5
     ·refine C3 j5 (A3 (A1 (wT rfl (A2 (A0 (D9 j5 (I7 (L0 l.nm l.tk l.hd l.ex 6 (V.view wb pre.length l.ws.length) (lb := lb) (j := k) (R := (rwW t.lk W)) ?_ ?_ ?_) rfl rfl rfl rfl rfl rfl ?_)))))))
      ·exact J8
      ·exact J8
      ·exact J8
      (apply D6 (u := .agg [.int _ _, .int _ _, .int _ _, .int _ _]) j3; exact Q0; exact Q1; rfl; rfl; rfl; rfl; exact kb; rfl; exact j2)
      refine A3 (A1 (B1 (A8 (B0 (E0 (A6 (A7 rfl (by exact Q0) j2 kb rfl) A9) (by (repeat first | exact Ch.refl _ | refine Ch.upd ?_ | refine Ch.app ?_ | assumption)) ?_)))))
      have e : acqT t r = (t, tellL 6 l) := by
       rw [F6 hh, hp]; unfold acqL; rw [hl, if_neg (fun e => e.elim h7_6 h7_14), if_neg h9_4]; exact if_pos (by omega)
      rw [e]
      exact ⟨rfl, T.same (by omega) (fun a ha => by (simp (disch := (first | omega | assumption)) only [↓appC, ↓updN, ↓updS, ↓app0]))⟩
     ·refine C3 j5 (A3 (A1 (wF rfl (B2 (C0 (A1 (A2 (B9 [0, 0, 2, 6, 14, 0, 32, 0, 128, 480, 992, 2046, 4095, 8191, 16383] rfl (by decide +kernel) ?_))))))))
      refine G9 j5 (G9 j5 (H0 (v := .ptr _ _ _) j6 (C9 (off := 4) (s := 1) (r := false) j3 kz j3 ?_)))
      (apply D5 (v := .view _ _ _) j2; exact Q0; exact Q1; exact j5)
      refine C9 (off := 0) (s := 1) (r := false) j3 kz j3 ?_
      (apply D5 (v := .int _ _) j2; exact Q0; exact Q1; exact j5)
      refine C9 (off := 3) (s := 1) (r := false) j3 kz j3 ?_
      (apply D5 (v := .int _ _) j2; exact Q0; exact Q1; exact j5)
      refine dbd (cs := [.int _ _, .int _ _]) j5 (X6 (es := [[.int _ _, .int _ _]]) j4 kz kb rfl rfl j3 ?_)
      (apply T6 (s' := 16) (es := [[.int _ _, .int _ _]]) rfl rfl; exact Q0; exact j2; (first | rfl | omega | (show _ = (pre ++ l.ws.map wtV).length; rw [List.length_append, List.length_map]) | (show _ = (pre ++ l.ws.map wtV).length; rw [List.length_append])); exact j2; exact kz; exact S4; exact AT; exact Q16; exact Q16; exact j3)
      refine H0 (v := .ptr _ _ _) j6 (C9 (off := 4) (s := 1) (r := false) j3 kz j3 ?_)
      (apply dst (u := .view _ _ _) rfl rfl rfl; exact Q0; exact Q1; rfl; rfl; rfl; rfl; exact kb; rfl; rfl; rfl)
      refine B3 15 [3, 0, 0, 3, 3, 0, 1, 0, 1, 0, 1, 0, 0, 0, 0] [(4, 10)] j2 (by decide +kernel) ?_ ?_
      ·(simp [ClearL, ids]; try omega)
      refine A1 (A2 (A0 (D9 j5 (I7 (L0 l.nm l.tk l.hd l.ex 2 (V.view (n + 1 + 1 + t.lk.length + 1 + 1) 0 (l.ws.length + 1)) (lb := lb) (j := k) (R := (rwW t.lk W).set k [.str l.nm, .int .i64 l.tk, .int .i64 l.hd, .int .i64 l.ex, (V.view (n + 1 + 1 + t.lk.length + 1 + 1) 0 (l.ws.length + 1))]) ?_ ?_ (List.getElem?_set_self hR)) rfl rfl rfl rfl rfl rfl ?_))))
      ·exact J8
      ·exact J8
      (apply D6 (u := .agg [.int _ _, .int _ _, .int _ _, .int _ _]) j3; exact Q0; exact Q1; rfl; rfl; rfl; rfl; exact kb; rfl; exact j2)
      refine A3 (A1 (B1 (E0 (A6 (A7 rfl (by exact Q0) j2 kb rfl) A9) (by (repeat first | exact Ch.refl _ | refine Ch.upd ?_ | refine Ch.app ?_ | assumption)) ?_)))
      have e : acqT t r = (⟨t.tm, t.nx, t.lk.set k ⟨l.nm, l.tk, l.hd, l.ex, l.ws ++ [(r.cl, r.le)]⟩, t.sn⟩, tellL 2 l) := by
       rw [F6 hh, hp]; unfold acqL; rw [hl, if_neg (fun e => e.elim h7_6 h7_14), if_neg h9_4]; exact if_neg (by omega)
      rw [e]
      refine ⟨rfl, T.lockS hk rfl ⟨l.nm, l.tk, l.hd, l.ex, l.ws ++ [(r.cl, r.le)]⟩ (V.view (n + 1 + 1 + t.lk.length + 1 + 1) 0 (l.ws.length + 1)) t.nx (by omega) ?_ ?_ ?_ ?_ ?_⟩
      ·exact Q0
      ·(simp (disch := (first | omega | assumption)) only [↓appC, ↓updN, ↓updS, ↓app0]); rfl
      ·refine .inr ⟨n + 1 + 1 + t.lk.length + 1 + 1, [], by simp, ?_⟩
       (simp (disch := (first | omega | assumption)) only [↓appC, ↓updN, ↓updS, ↓app0])
       exact congrArg (fun z => some (Blk.mk z 2 123)) (by simp [wtV])
      ·intro a ha; cases ha; exact ⟨by omega, .inr (by omega)⟩
      ·intro a ha h1 h2 h3; have h4 : a ≠ wb := fun e => h3 (by rw [hwk, e]; rfl); (simp (disch := (first | omega | assumption)) only [↓appC, ↓updN, ↓updS, ↓app0])
end Go.Proofs.Ytknnniaoboaghaa
