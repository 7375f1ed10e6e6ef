import Derived.Test.YtknnniaoboaghaaM15
namespace Go.Proofs.Ytknnniaoboaghaa
open Go.V
set_option linter.unusedVariables false
set_option linter.unusedSimpArgs false
set_option maxRecDepth 20000
set_option maxHeartbeats 4000000
theorem o53n (k : Int) {h : Heap} {n : Nat} : V.Open En 53 [.nsl, .int .i64 k] h n (.int .i64 k) [] n := by
 refine V.Open.of_wp Try.func53 rfl (Nat.le_of_ble_eq_true rfl) ?_
 refine wSeq (wRegion (raI rfl rfl rfl rfl rfl (rNil (qSeq (wSeq (wSeq (wRegion (raI rfl rfl rfl rfl rfl (rNil (qSeq (wBlock (wLoop ?_))))))))))))
 refine lStep (wSeq (wSeq (wRegion (rmI rfl rfl rfl rfl rfl (rmN rfl rfl rfl rfl rfl (rll rfl rfl rfl rfl rfl rfl ?_))))))
 refine rlt rfl rfl rfl rfl rfl rfl (fun h => absurd h (by decide)) ?_
 intro h2_3
 refine rNil (qSeq (wF rfl (wExit (qSeqX (qLoopX (qBlockX (qSeq (wSeq (wRegion (rmI rfl rfl rfl rfl rfl (raI rfl rfl rfl rfl rfl (rNil ?_))))))))))))
 refine qSeq (wRet ?_)
 exact finO rfl rfl (fun _ _ _ e => e) (Nat.le_refl _)
theorem o54n (k : Int) {h : Heap} {n : Nat} : V.Open En 54 [.nsl, .int .i64 k] h n (.int .i64 k) [] n := by
 refine V.Open.of_wp Try.func54 rfl (Nat.le_of_ble_eq_true rfl) ?_
 refine wSeq (wRegion (raI rfl rfl rfl rfl rfl (rNil (qSeq (wSeq (wSeq (wRegion (raI rfl rfl rfl rfl rfl (rNil (qSeq (wBlock (wLoop ?_))))))))))))
 refine lStep (wSeq (wSeq (wRegion (rmI rfl rfl rfl rfl rfl (rmN rfl rfl rfl rfl rfl (rll rfl rfl rfl rfl rfl rfl ?_))))))
 refine rlt rfl rfl rfl rfl rfl rfl (fun h => absurd h (by decide)) ?_
 intro h2_3
 refine rNil (qSeq (wF rfl (wExit (qSeqX (qLoopX (qBlockX (qSeq (wSeq (wRegion (rmI rfl rfl rfl rfl rfl (raI rfl rfl rfl rfl rfl (rNil ?_))))))))))))
 refine qSeq (wRet ?_)
 exact finO rfl rfl (fun _ _ _ e => e) (Nat.le_refl _)
open Go.V
set_option linter.unusedVariables false
set_option linter.unusedSimpArgs false
set_option maxRecDepth 20000
set_option maxHeartbeats 4000000
theorem o55w (L : List Wt) (k : Int) (hk : 0 ≤ k ∧ k ≤ 1125899906842624) (hL : L.length ≤ 1048577) {v : V} {h : Heap} {n : Nat} (hn : ∀ a, fpV v = some a → a < n) (z : IsL h v (L.map wtV) 2 123) :
  OpenM En 55 [v, .int .i64 k] h n (fun u g m => u = .int .i64 (k + 2 * (L.length : Int)) ∧ IsL g v ((MW k L.length).map wtV) 2 123 ∧ (∀ a, fpV v ≠ some a → g a = h a) ∧ m = n) := by
 rcases z with ⟨rfl, z⟩ | ⟨id, pre, rfl, z⟩
 ·have : L = [] := List.map_eq_nil_iff.1 z
  subst this
  exact V.Open.toM (o55n k) ⟨by simp, .inl ⟨rfl, rfl⟩, fun _ _ => rfl, rfl⟩
 ·rw [List.length_map] at hn ⊢
  refine V.Open.toM (o55p pre L k hk hL (hn id rfl) z) ⟨rfl, .inr ⟨id, pre, by rw [List.length_map, MW_len], ?_⟩, fun a ha => ?_, rfl⟩
  ·simp only [app]; exact upd_same _ _ _
  ·have : a ≠ id := fun e => ha (by rw [e]; rfl)
   simp only [app]; exact upd_ne _ _ this
theorem o54w (L : List Sn) (k : Int) (hk : 0 ≤ k ∧ k ≤ 1125899906842624) (hL : L.length ≤ 1048577) {v : V} {h : Heap} {n : Nat} (hn : ∀ a, fpV v = some a → a < n) (z : IsZ h v (L.map Sn.V) 6 115) :
  OpenM En 54 [v, .int .i64 k] h n (fun u g m => u = .int .i64 (k + 6 * (L.length : Int)) ∧ IsZ g v ((MS k L.length).map Sn.V) 6 115 ∧ (∀ a, fpV v ≠ some a → g a = h a) ∧ m = n) := by
 rcases z with ⟨rfl, z⟩ | ⟨id, rfl, z⟩
 ·have : L = [] := List.map_eq_nil_iff.1 z
  subst this
  exact V.Open.toM (o54n k) ⟨by simp, .inl ⟨rfl, rfl⟩, fun _ _ => rfl, rfl⟩
 ·rw [List.length_map] at hn ⊢
  refine V.Open.toM (o54 L k hk hL (hn id rfl) z) ⟨rfl, .inr ⟨id, by rw [List.length_map, MS_len], ?_⟩, fun a ha => ?_, rfl⟩
  ·simp only [app]; exact upd_same _ _ _
  ·have : a ≠ id := fun e => ha (by rw [e]; rfl)
   simp only [app]; exact upd_ne _ _ this
structure MkI (L : List Lk) (k : Int) (lb : Nat) (W : Nat → V) (h0 : Heap) (i : Nat) (y : Int) (g : Heap) : Prop where
 le : i ≤ L.length
 yk : y = kL k (L.take i)
 yb : k ≤ y ∧ y ≤ k + 2097160 * (i : Int)
 klb : g lb = some ⟨rwW (mix (ML k L) L i) W, 5, 29⟩
 kw : ∀ j, j < L.length → IsL g (W j) (((mix (ML k L) L i).getD j Lk0).ws.map wtV) 2 123
 fr : ∀ a, a ≠ lb → (∀ j, j < L.length → fpV (W j) ≠ some a) → g a = h0 a
 ch : Ch h0 g
theorem rwW_setS {L M : List Lk} {W : Nat → V} {i : Nat} {l : Lk} (hi : i < L.length) (hm : M.length = L.length) (hg : ∀ j, j < L.length → M.getD j Lk0 = if j = i then l else L.getD j Lk0) : (rwW L W).set i (l.V (W i)) = rwW M W := by
 apply List.ext_getElem?
 intro j
 rw [List.getElem?_set, rwW_len]
 by_cases hj : j < L.length
 ·rw [rwW_get (L := M) (by omega), hg j hj]
  by_cases e : i = j
  ·subst e; simp [hi]
  ·rw [if_neg e, if_neg (Ne.symm e), rwW_get hj]
 ·rw [List.getElem?_eq_none (l := rwW M W) (by rw [rwW_len]; omega)]
  by_cases e : i = j
  ·omega
  ·rw [if_neg e, List.getElem?_eq_none (by rw [rwW_len]; omega)]
theorem MkI.next {L : List Lk} {k : Int} {lb : Nat} {W : Nat → V} {h0 : Heap} {i : Nat} {y : Int} {g g2 : Heap} (I : MkI L k lb W h0 i y g) (hi : i < L.length) (hW : (L.getD i Lk0).ws.length ≤ 1048577) (hlw : ∀ j, j < L.length → fpV (W j) ≠ some lb) (hww : ∀ i j a, i < L.length → j < L.length → i ≠ j → fpV (W i) = some a → fpV (W j) ≠ some a)
  (e1 : g2 lb = some ⟨(rwW (mix (ML k L) L i) W).set i ((mLk y (L.getD i Lk0).ws.length).V (W i)), 5, 29⟩) (e2 : IsL g2 (W i) ((MW (y + 1 + 1 + 1 + 1) (L.getD i Lk0).ws.length).map wtV) 2 123) (e3 : ∀ a, a ≠ lb → fpV (W i) ≠ some a → g2 a = g a) (hc : Ch g g2) :
  MkI L k lb W h0 (i + 1) (y + 1 + 1 + 1 + 1 + 2 * ((L.getD i Lk0).ws.length : Int)) g2 := by
 have hml := mix_len (i := i) (ML_len k L) I.le
 have hml1 := mix_len (i := i + 1) (ML_len k L) (show i + 1 ≤ L.length by omega)
 have hx := kL_take (k := k) hi
 have hM : (ML k L).getD i Lk0 = mLk y (L.getD i Lk0).ws.length := by rw [ML_get hi, I.yk]
 have hg : ∀ j, (mix (ML k L) L (i + 1)).getD j Lk0 = if j = i then mLk y (L.getD i Lk0).ws.length else (mix (ML k L) L i).getD j Lk0 := fun j => by
  rw [mixL (by omega), mixL I.le]
  by_cases e : j = i
  ·subst e; rw [if_pos (by omega), if_pos rfl, hM]
  ·rw [if_neg e]
   by_cases h4 : j < i
   ·rw [if_pos h4, if_pos (by omega)]
   ·rw [if_neg h4, if_neg (by omega)]
 refine ⟨by omega, by rw [hx, ← I.yk]; omega, by have := I.yb; omega, ?_, fun j hj => ?_, fun a h1 h2 => ?_, I.ch.trans hc⟩
 ·rw [e1, rwW_setS (M := mix (ML k L) L (i + 1)) (by rw [hml]; exact hi) (by rw [hml1, hml]) (fun j _ => hg j)]
 ·rw [hg j]
  by_cases e : j = i
  ·subst e; rw [if_pos rfl]; exact e2
  ·rw [if_neg e]
   refine (I.kw j hj).mono fun a ha => ?_
   exact e3 a (fun e5 => hlw j hj (by rw [← e5]; exact ha)) (hww j i a hj hi e ha)
 ·rw [e3 a h1 (h2 i hi), I.fr a h1 h2]
theorem o53v (L : List Lk) (k : Int) (hk : 0 ≤ k ∧ k ≤ 1000000) (hL : L.length ≤ 1048577) (hW : ∀ i, i < L.length → (L.getD i Lk0).ws.length ≤ 1048577) {lb : Nat} {W : Nat → V} {h : Heap} {n : Nat} (hlb : lb < n) (k1 : h lb = some ⟨rwW L W, 5, 29⟩) (kf : ∀ i, i < L.length → IsL h (W i) ((L.getD i Lk0).ws.map wtV) 2 123)
  (hlw : ∀ j, j < L.length → fpV (W j) ≠ some lb) (hwn : ∀ j a, j < L.length → fpV (W j) = some a → a < n) (hww : ∀ i j a, i < L.length → j < L.length → i ≠ j → fpV (W i) = some a → fpV (W j) ≠ some a) :
  OpenM En 53 [.view lb 0 L.length, .int .i64 k] h n (fun u g m => u = .int .i64 (kL k L) ∧ g lb = some ⟨rwW (ML k L) W, 5, 29⟩ ∧ (∀ i, i < L.length → IsL g (W i) (((ML k L).getD i Lk0).ws.map wtV) 2 123) ∧ (∀ a, a ≠ lb → (∀ j, j < L.length → fpV (W j) ≠ some a) → g a = h a) ∧ m = n) := by
 refine OpenM.of_wp Try.func53 rfl (Nat.le_of_ble_eq_true rfl) ?_
 refine wSeq (wRegion (raI rfl rfl rfl rfl rfl (rNil (qSeq (wSeq (wSeq (wRegion (raI rfl rfl rfl rfl rfl (rNil (qSeq (wBlock (wLoop ?_))))))))))))
 refine loopGo (fun (a : Nat × Int × Heap) => [.view lb 0 L.length, .int .i64 a.2.1, .unk, .unk, .unk, .int .i64 a.1]) (fun (a : Nat × Int × Heap) => a.2.2) (fun (a : Nat × Int × Heap) => n) (fun (a : Nat × Int × Heap) => MkI L k lb W h a.1 a.2.1 a.2.2) (fun (a : Nat × Int × Heap) => L.length - a.1) (0, k, h) ?_ ?_ ?_ ?_ ?_
 ·exact ⟨Nat.zero_le _, by rw [List.take_zero]; rfl, by dsimp only; omega, by rw [mix_zero]; exact k1, fun j hj => by rw [mix_zero]; exact kf j hj, fun _ _ _ => rfl, Ch.refl _⟩
 ·(repeat first | exact LE.nil _ | refine LE.unk _ _ ?_ | refine LE.eq _ _ _ rfl ?_)
 ·exact LessH.refl _
 ·exact Nat.le_refl _
 intro ⟨i, y, g⟩ hI ih
 dsimp only at hI ⊢
 have hle := hI.le
 have hyb := hI.yb
 have k3 := hI.klb
 have hml := mix_len (i := i) (ML_len k L) hI.le
 have hR : i < L.length → i < (rwW (mix (ML k L) L i) W).length := fun h => by rw [rwW_len, hml]; exact h
 have hkw : i < L.length → IsL g (W i) ((L.getD i Lk0).ws.map wtV) 2 123 := fun h => by have := hI.kw i h; rwa [mixSame h] at this
 have hwi := fun h : i < L.length => hW i h
 have hrow : i < L.length → (rwW (mix (ML k L) L i) W)[i]? = some [.str (L.getD i Lk0).nm, .int .i64 (L.getD i Lk0).tk, .int .i64 (L.getD i Lk0).hd, .int .i64 (L.getD i Lk0).ex, W i] := fun h => by
  rw [rwW_get (by rw [hml]; exact h), mixSame h]; rfl
 refine lStep (wSeq (wSeq (wRegion (rmI rfl rfl rfl rfl rfl (rmV rfl rfl rfl rfl rfl (rll rfl rfl rfl rfl rfl rfl ?_))))))
 refine rlt rfl rfl rfl rfl rfl rfl ?_ ?_ <;> intro h2_3
 ·refine rNil (qSeq (wT rfl (wSkip (qSeq (wSeq (wBlock (wSeq (wRegion (rmV rfl rfl rfl rfl rfl (rmI rfl rfl rfl rfl rfl (rmI rfl rfl rfl rfl rfl (rcl (q94 _ (by omega)) rfl rfl rfl rfl rfl rfl ?_))))))))))))
  (refine r0 ((op_index_view rfl rfl rfl rfl (by exact Q0) rfl (by omega) (by omega)).to (v' := .ptr lb i 0) (by rw [toNat0])) rfl rfl rfl ?_)
  refine rfa (off := 0) (s := 1) (r := false) rfl rfl rfl (Nat.succ_ne_zero _) rfl rfl rfl ?_
  (apply rst (u := .str _) rfl rfl rfl; exact Q0; exact hrow (by omega); rfl; rfl; rfl; rfl; (exact Nat.le_of_ble_eq_true rfl); rfl; rfl; rfl)
  refine rNil (qSeq (wSeq (wRegion (rmI rfl rfl rfl rfl rfl (raddF rfl rfl rfl ?_ ?_ rfl rfl rfl ?_)))))
  ·omega
  ·omega
  refine raI rfl rfl rfl rfl rfl (rNil (qSeq (wSeq (wRegion (rmV rfl rfl rfl rfl rfl (rmI rfl rfl rfl rfl rfl (rmI rfl rfl rfl rfl rfl ?_)))))))
  (refine r0 ((op_index_view rfl rfl rfl rfl (by exact Q0) rfl (by omega) (by omega)).to (v' := .ptr lb i 0) (by rw [toNat0])) rfl rfl rfl ?_)
  refine rfa (off := 1) (s := 1) (r := false) rfl rfl rfl (Nat.succ_ne_zero _) rfl rfl rfl ?_
  (apply rst (u := .int _ _) rfl rfl rfl; exact Q0; exact List.getElem?_set_self (by (try simp only [List.length_set]); exact hR (by omega)); rfl; rfl; rfl; rfl; (exact Nat.le_of_ble_eq_true rfl); rfl; rfl; rfl)
  refine rNil (qSeq (wSeq (wRegion (rmI rfl rfl rfl rfl rfl (raddF rfl rfl rfl ?_ ?_ rfl rfl rfl ?_)))))
  ·omega
  ·omega
  refine raI rfl rfl rfl rfl rfl (rNil (qSeq (wSeq (wRegion (rmV rfl rfl rfl rfl rfl (rmI rfl rfl rfl rfl rfl (rmI rfl rfl rfl rfl rfl ?_)))))))
  (refine r0 ((op_index_view rfl rfl rfl rfl (by exact Q0) rfl (by omega) (by omega)).to (v' := .ptr lb i 0) (by rw [toNat0])) rfl rfl rfl ?_)
  refine rfa (off := 2) (s := 1) (r := false) rfl rfl rfl (Nat.succ_ne_zero _) rfl rfl rfl ?_
  (apply rst (u := .int _ _) rfl rfl rfl; exact Q0; exact List.getElem?_set_self (by (try simp only [List.length_set]); exact hR (by omega)); rfl; rfl; rfl; rfl; (exact Nat.le_of_ble_eq_true rfl); rfl; rfl; rfl)
  refine rNil (qSeq (wSeq (wRegion (rmI rfl rfl rfl rfl rfl (raddF rfl rfl rfl ?_ ?_ rfl rfl rfl ?_)))))
  ·omega
  ·omega
  refine raI rfl rfl rfl rfl rfl (rNil (qSeq (wSeq (wRegion (rmV rfl rfl rfl rfl rfl (rmI rfl rfl rfl rfl rfl (rmI rfl rfl rfl rfl rfl ?_)))))))
  (refine r0 ((op_index_view rfl rfl rfl rfl (by exact Q0) rfl (by omega) (by omega)).to (v' := .ptr lb i 0) (by rw [toNat0])) rfl rfl rfl ?_)
  refine rfa (off := 3) (s := 1) (r := false) rfl rfl rfl (Nat.succ_ne_zero _) rfl rfl rfl ?_
  (apply rst (u := .int _ _) rfl rfl rfl; exact Q0; exact List.getElem?_set_self (by (try simp only [List.length_set]); exact hR (by omega)); rfl; rfl; rfl; rfl; (exact Nat.le_of_ble_eq_true rfl); rfl; rfl; rfl)
  refine rNil (qSeq (wSeq (wRegion (rmI rfl rfl rfl rfl rfl (raddF rfl rfl rfl ?_ ?_ rfl rfl rfl ?_)))))
  ·omega
  ·omega
  refine raI rfl rfl rfl rfl rfl (rNil (qSeq (wRegion (rmV rfl rfl rfl rfl rfl (rmI rfl rfl rfl rfl rfl ?_)))))
  (refine r0 ((op_index_view rfl rfl rfl rfl (by exact Q0) rfl (by omega) (by omega)).to (v' := .ptr lb i 0) (by rw [toNat0])) rfl rfl rfl ?_)
  refine rfa (off := 4) (s := 1) (r := false) rfl rfl rfl (Nat.succ_ne_zero _) rfl rfl rfl ?_
  (apply rlc (v := W i) rfl rfl; exact Q0; exact List.getElem?_set_self (by simp only [List.length_set]; exact hR (by omega)); rfl; rfl; rfl; rfl; rfl)
  refine rmI rfl rfl rfl rfl rfl ?_
  refine ropM (o55w (L.getD i Lk0).ws (y + 1 + 1 + 1 + 1) (by omega) (by have := hW i (by omega); omega) (v := W i) (fun a ha => hwn i a (by omega) ha) ((hkw (by omega)).mono (fun a ha => by have q9 : a ≠ lb := (fun e => hlw i (by omega) (by rw [← e]; exact ha)); (simp (disch := (first | omega | assumption)) only [↓appC, ↓updN, ↓updS, ↓app0])))) rfl rfl rfl rfl rfl rfl ?_
  rintro _ g5 m5 ⟨rfl, z1, z2, rfl⟩ hc5 hl5
  refine raI rfl rfl rfl rfl rfl (rNil (qBlock (qSeq (wRegion (rmI rfl rfl rfl rfl rfl (raddF rfl rfl rfl ?_ ?_ rfl rfl rfl ?_))))))
  ·omega
  ·omega
  refine raI rfl rfl rfl rfl rfl (rNil (qLoop ?_))
  have hi : i < L.length := by omega
  refine wlH (ih (i + 1, y + 1 + 1 + 1 + 1 + 2 * ((L.getD i Lk0).ws.length : Int), g5) (hI.next (g2 := g5) hi (hW i hi) hlw hww ?_ z1 (fun a h1 h2 => ?_) (Ch.trans (by (repeat first | exact Ch.refl _ | refine Ch.upd ?_ | refine Ch.app ?_)) hc5)) (by dsimp only; omega)) (by (repeat first | exact LE.nil _ | refine LE.unk _ _ ?_ | refine LE.eq _ _ _ rfl ?_)) (LessH.refl _) (Nat.le_refl _)
  focus
   rw [z2 lb (hlw i hi)]
   (simp (disch := (first | omega | assumption)) only [↓appC, ↓updN, ↓updS, ↓app0])
   refine congrArg (fun z => some (Blk.mk z 5 29)) ?_
   simp only [List.set_set]
   rfl
  focus
   rw [z2 a h2]
   (simp (disch := (first | omega | assumption)) only [↓appC, ↓updN, ↓updS, ↓app0])
 ·refine rNil (qSeq (wF rfl (wExit (qSeqX (qLoopX (qBlockX (qSeq (wSeq (wRegion (rmI rfl rfl rfl rfl rfl (raI rfl rfl rfl rfl rfl (rNil ?_))))))))))))
  refine qSeq (wRet ?_)
  obtain rfl : i = L.length := by omega
  refine finM rfl hI.ch ⟨congrArg (V.int .i64) (by rw [hI.yk, List.take_length]), ?_, fun j hj => ?_, hI.fr, rfl⟩
  ·rw [k3, mix_full (ML_len k L)]
  ·have := hI.kw j hj; rwa [mix_full (ML_len k L)] at this
theorem o53w (L : List Lk) (k : Int) (hk : 0 ≤ k ∧ k ≤ 1000000) (hL : L.length ≤ 1048577) (hW : ∀ i, i < L.length → (L.getD i Lk0).ws.length ≤ 1048577) {Sl : V} {W : Nat → V} {h : Heap} {n : Nat} (hn : ∀ a, fpV Sl = some a → a < n) (k1 : IsZ h Sl (rwW L W) 5 29) (kf : ∀ i, i < L.length → IsL h (W i) ((L.getD i Lk0).ws.map wtV) 2 123)
  (hlw : ∀ j a, j < L.length → fpV (W j) = some a → fpV Sl ≠ some a) (hwn : ∀ j a, j < L.length → fpV (W j) = some a → a < n) (hww : ∀ i j a, i < L.length → j < L.length → i ≠ j → fpV (W i) = some a → fpV (W j) ≠ some a) :
  OpenM En 53 [Sl, .int .i64 k] h n (fun u g m => u = .int .i64 (kL k L) ∧ IsZ g Sl (rwW (ML k L) W) 5 29 ∧ (∀ i, i < L.length → IsL g (W i) (((ML k L).getD i Lk0).ws.map wtV) 2 123) ∧ (∀ a, fpV Sl ≠ some a → (∀ j, j < L.length → fpV (W j) ≠ some a) → g a = h a) ∧ m = n) := by
 rcases k1 with ⟨rfl, z⟩ | ⟨lb, rfl, z⟩
 ·have hl : L.length = 0 := by have := congrArg List.length z; rw [rwW_len] at this; exact this
  have : L = [] := List.eq_nil_of_length_eq_zero hl
  subst this
  exact V.Open.toM (o53n k) ⟨rfl, .inl ⟨rfl, rfl⟩, fun i hi => absurd hi (Nat.not_lt_zero _), fun _ _ _ => rfl, rfl⟩
 ·rw [rwW_len]
  refine OpenM.conv (o53v L k hk hL hW (hn lb rfl) z kf (fun j hj e => hlw j lb hj e rfl) hwn hww) ?_
  rintro u g m ⟨h1, h2, h3, h4, h5⟩
  exact ⟨h1, .inr ⟨lb, by rw [rwW_len, ML_len], h2⟩, h3, fun a h6 h7 => h4 a (fun e => h6 (by rw [e]; rfl)) h7, h5⟩
theorem o15w (t : Tb) (k : Int) (hk : 0 ≤ k ∧ k ≤ 1000000) (hL : t.lk.length ≤ 1048577) (hW : ∀ i, i < t.lk.length → (t.lk.getD i Lk0).ws.length ≤ 1048577) (hS : t.sn.length ≤ 1048577) {Sl Ss : V} {W : Nat → V} {h : Heap} {n0 n : Nat} (T : TabV t Sl Ss W h n0 n) :
  OpenM En 15 [.agg [.int .i64 t.tm, .int .i64 t.nx, Sl, Ss], .int .i64 k] h n (fun u g m => u = .int .i64 (kL k t.lk + 6 * (t.sn.length : Int)) ∧ TabV ⟨t.tm, t.nx, ML k t.lk, MS (kL k t.lk) t.sn.length⟩ Sl Ss W g n0 m ∧ (∀ a, a < n → ¬ OwnT n Sl Ss W t.lk.length a → g a = h a) ∧ n ≤ m) := by
 have kcl := T.kl.cell
 have kcs := T.ks.cell
 have hbd := kL_bd (k := k) hW
 refine OpenM.of_wp Try.func15 rfl (Nat.le_of_ble_eq_true rfl) ?_
 refine wSeq (wRegion ?_)
 (refine rbx (u := .agg [.int .i64 t.tm, .int .i64 t.nx, Sl, Ss]) rfl rfl rfl (show (Sl.cell && (Ss.cell && true)) = true by rw [kcl, kcs]; rfl) rfl rfl rfl ?_)
 refine raI rfl rfl rfl rfl rfl (rNil (qSeq (wSeq (wRegion (rfa (off := 2) (s := 1) (r := false) rfl rfl rfl (Nat.succ_ne_zero _) rfl rfl rfl ?_)))))
 (apply rlc (v := Sl) rfl rfl; exact Q0; rfl; rfl; rfl; rfl; rfl; rfl)
 refine rmI rfl rfl rfl rfl rfl ?_
 refine ropM (o53w t.lk k hk hL hW (fun a ha => by have := (T.fl a ha).2; omega) (T.kl.mono (fun a ha => by have := (T.fl a ha).2; (simp (disch := (first | omega | assumption)) only [↓appC, ↓updN, ↓updS, ↓app0]))) (fun i hi => (T.kw i hi).mono (fun a ha => by have := (T.fw i a hi ha).1.2; (simp (disch := (first | omega | assumption)) only [↓appC, ↓updN, ↓updS, ↓app0]))) (fun j a hj ha => (T.fw j a hj ha).2.1) (fun j a hj ha => by have := (T.fw j a hj ha).1.2; omega) (fun i j a hi hj hij ha => (T.fw i a hi ha).2.2.2 j hj (Ne.symm hij))) rfl rfl rfl rfl rfl rfl ?_
 rintro _ g1 m1 ⟨rfl, a1, a2, a3, rfl⟩ hc1 hl1
 have qn : g1 n = some ⟨[[.int .i64 t.tm, .int .i64 t.nx, Sl, Ss]], 4, 35⟩ := by
  rw [a3 n (fun e => by have := (T.fl n e).2; omega) (fun j hj e => by have := (T.fw j n hj e).1.2; omega)]
  (simp (disch := (first | omega | assumption)) only [↓appC, ↓updN, ↓updS, ↓app0]); rfl
 have ksA : IsZ g1 Ss (t.sn.map Sn.V) 6 115 := T.ks.mono (fun a ha => by
  have q := T.fs a ha
  have q1 := q.1.2
  rw [a3 a q.2 (fun j hj e => (T.fw j a hj e).2.2.1 ha)]
  (simp (disch := (first | omega | assumption)) only [↓appC, ↓updN, ↓updS, ↓app0]))
 refine raI rfl rfl rfl rfl rfl (rNil (qSeq (wSeq (wRegion (rfa (off := 3) (s := 1) (r := false) rfl rfl rfl (Nat.succ_ne_zero _) rfl rfl rfl ?_)))))
 (apply rlc (v := Ss) rfl rfl; exact qn; rfl; rfl; rfl; rfl; rfl; rfl)
 refine rmI rfl rfl rfl rfl rfl ?_
 refine ropM (o54w t.sn (kL k t.lk) (by omega) hS (fun a ha => by have := (T.fs a ha).1.2; omega) ksA) rfl rfl rfl rfl rfl rfl ?_
 rintro _ g2 m2 ⟨rfl, b1, b2, rfl⟩ hc2 hl2
 refine raI rfl rfl rfl rfl rfl (rNil (qSeq (wSeq (wRegion (rmI rfl rfl rfl rfl rfl (raI rfl rfl rfl rfl rfl (rNil (qSeq (wRet ?_)))))))))
 refine finM rfl (Ch.trans (Ch.trans (by (repeat first | exact Ch.refl _ | refine Ch.upd ?_ | refine Ch.app ?_)) hc1) hc2) ⟨rfl, ⟨?_, b1, fun i hi => ?_, fun a ha => ⟨(T.fl a ha).1, by have := (T.fl a ha).2; omega⟩, fun a ha => ⟨⟨(T.fs a ha).1.1, by have := (T.fs a ha).1.2; omega⟩, (T.fs a ha).2⟩, fun i a hi ha => ?_⟩, fun a h1 h2 => ?_, by omega⟩
 ·exact a1.mono (fun a ha => b2 a (fun e => (T.fs a e).2 ha))
 ·have hi' : i < t.lk.length := by rw [← ML_len k t.lk]; exact hi
  exact (a2 i hi').mono (fun a ha => b2 a (T.fw i a hi' ha).2.2.1)
 ·have hi' : i < t.lk.length := by rw [← ML_len k t.lk]; exact hi
  have q := T.fw i a hi' ha
  exact ⟨⟨q.1.1, by omega⟩, q.2.1, q.2.2.1, fun j hj => q.2.2.2 j (by rw [← ML_len k t.lk]; exact hj)⟩
 ·rw [b2 a (fun e => h2 (.inr (.inr (.inl e)))), a3 a (fun e => h2 (.inr (.inl e))) (fun j hj e => h2 (.inr (.inr (.inr ⟨j, hj, e⟩))))]
  (simp (disch := (first | omega | assumption)) only [↓appC, ↓updN, ↓updS, ↓app0])
end Go.Proofs.Ytknnniaoboaghaa
namespace Go.V
open Go
open Go.RowKit (Below)
set_option linter.unusedVariables false
def fl1 (x : V) : V := if x.flat then x else .unk
theorem fl1_flat (x : V) : (fl1 x).flat = true := by
  unfold fl1
  split
  · assumption
  · rfl
theorem fl1_id {x : V} (h : x.flat = true) : fl1 x = x := if_pos h
theorem VR.fl1 {c : Cx} {x : V} {v : Value} (h : VR c x v) : VR c (fl1 x) v := by
  unfold V.fl1
  split
  · exact h
  · exact .unk v
def flB (b : Blk) : Blk := ⟨b.es.map (·.map fl1), b.sz, b.ty⟩
theorem CellsAt.flB {c : Cx} {p : Place} {b : Blk} (h : CellsAt c p b) : CellsAt c p (flB b) := by
  obtain ⟨cells, fz, h2, h3, h4, h5, h6, h7, h8⟩ := h
  refine ⟨cells, fz, h2, h3, h4, h5, by simpa [V.flB] using h6, fun e he => ?_, fun i j x hx => ?_⟩
  · obtain ⟨e0, h0, rfl⟩ := List.mem_map.1 he
    rw [List.length_map]; exact h7 e0 h0
  · unfold get2 at hx
    simp only [V.flB, List.getElem?_map] at hx
    cases he : b.es[i]? with
    | none => simp [he] at hx
    | some e =>
      simp only [he, Option.map_some, Option.bind_some, List.getElem?_map] at hx
      cases hj : e[j]? with
      | none => simp [hj] at hx
      | some y =>
        simp only [hj, Option.map_some, Option.some.injEq] at hx
        subst hx
        obtain ⟨v, a1, a2, a3⟩ := h8 i j y (by simp [get2, he, hj])
        exact ⟨v, a1, a2.fl1, a3⟩
theorem MapAt.flB {c : Cx} {p : Place} {b : Blk} (h : MapAt c p b) : MapAt c p (flB b) := by
  obtain ⟨es, h1, h2, h3⟩ := h
  refine ⟨es, by simpa [V.flB] using h1, by simpa [V.flB] using h2, fun i row hr => ?_⟩
  simp only [V.flB, List.getElem?_map] at hr
  cases hb : b.es[i]? with
  | none => simp [hb] at hr
  | some e =>
    simp only [hb, Option.map_some, Option.some.injEq] at hr
    subst hr
    obtain ⟨en, k, x, a1, rfl, a3, a4, a5⟩ := h3 i e hb
    exact ⟨en, fl1 k, fl1 x, a1, rfl, a3, a4.fl1, a5.fl1⟩
theorem Good.lessF {E : Env} {c : Cx} {h h' : Heap} (hg : Good E c h) (hs : ∀ id b, h' id = some b → ∃ b0, h id = some b0 ∧ b = flB b0) : Good E c h' := by
  refine ⟨fun k x hk => ?_, fun k k' x x' r r' h1 h2 => ?_, hg.imm, fun k x r h1 => ?_, hg.own, hg.base, hg.glob⟩
  · obtain ⟨b0, e1, rfl⟩ := hs k x hk
    obtain ⟨p, a1, a2, a3⟩ := hg.blk k b0 e1
    exact ⟨p, a1, fun hm => (a2 hm).flB, fun hm => (a3 hm).flB⟩
  · obtain ⟨b0, e1, _⟩ := hs _ _ h1
    obtain ⟨b1, e2, _⟩ := hs _ _ h2
    exact hg.inj k k' b0 b1 r r' e1 e2
  · obtain ⟨b0, e1, _⟩ := hs _ _ h1
    exact hg.sep k b0 r e1
theorem Open.lessF {E : Env} {f : FuncId} {args : List V} {h : Heap} {n m : Nat} {v : V} {wr wr' : List (Nat × Option Blk)} (H : Open E f args h n v wr m) (hw : ∀ i b, app wr' h i = some b → ∃ b0, app wr h i = some b0 ∧ b = flB b0) : Open E f args h n v wr' m := by
  unfold Open at H ⊢
  refine ⟨H.1, fun c vs hg hfr hal har => ?_⟩
  refine Calls.mono (H.2 c vs hg hfr hal har) ?_
  rintro e w' ⟨u, c', h1, h2, h3, h4, h5, h6⟩
  exact ⟨u, c', h1, h2, h3, h4.lessF hw, h5, h6⟩
end Go.V
namespace Go.Proofs.Ytknnniaoboaghaa
open Go.V
set_option linter.unusedVariables false
set_option linter.unusedSimpArgs false
set_option maxRecDepth 20000
set_option maxHeartbeats 4000000
theorem appN {wr : List (Nat × Option Blk)} {h : Heap} {i : Nat} (hn : i ∉ wr.map (·.1)) : app wr h i = h i := app_ne wr h i hn
structure Fresh (t : Tb) (Sl Ss : V) (W : Nat → V) (wr : List (Nat × Option Blk)) (n m : Nat) : Prop where
 tv : TabV t Sl Ss W (app wr (fun _ => none)) n m
 id : ∀ a ∈ wr.map (·.1), n ≤ a ∧ a < m
 fl : ∀ id b, app wr (fun _ => none) id = some b → ∀ e ∈ b.es, ∀ x ∈ e, x.flat = true
 own : ∀ a, a ∈ tabIds Sl Ss W t.lk.length → a ∈ wr.map (·.1)
 ne : wr ≠ []
def mkWr (X : Heap) (n : Nat) : List Nat → List (Nat × Option Blk)
 | [] => [(n, X n)]
 | a :: r => (a, X a) :: mkWr X n r
theorem mkWr_fst (X : Heap) (n : Nat) : ∀ l : List Nat, (mkWr X n l).map (·.1) = l ++ [n]
 | [] => rfl
 | a :: r => by simp [mkWr, mkWr_fst X n r]
theorem mkWr_app (X : Heap) (n : Nat) : ∀ (l : List Nat) (h : Heap) (a : Nat), a ∈ l ++ [n] → app (mkWr X n l) h a = X a
 | [], h, a, ha => by
  simp at ha; subst ha
  simp only [mkWr, app]; exact upd_same _ _ _
 | b :: r, h, a, ha => by
  simp only [mkWr, app]
  by_cases hr : a ∈ r ++ [n]
  ·exact mkWr_app X n r _ a hr
  ·have e : a = b := by simp at ha hr; rcases ha with h | h | h <;> first | exact h | exact absurd h (by simp [hr])
   rw [app_ne _ _ _ (by rw [mkWr_fst]; exact hr), e]; exact upd_same _ _ _
theorem mkWr_less (X : Heap) (n : Nat) (l : List Nat) (i : Nat) (b : Blk) (h : app (mkWr X n l) (fun _ => none) i = some b) : X i = some b := by
 by_cases hi : i ∈ l ++ [n]
 ·rwa [mkWr_app X n l _ i hi] at h
 ·rw [app_ne _ _ _ (by rw [mkWr_fst]; exact hi)] at h; cases h
theorem tabIds_V {t : Tb} {Sl Ss : V} {W : Nat → V} {h : Heap} {n0 n a : Nat} (T : TabV t Sl Ss W h n0 n) (ha : a ∈ tabIds Sl Ss W t.lk.length) : n0 ≤ a ∧ a < n := by
 rcases tabIds_own (id := n) ha with e | e | e | ⟨i, hi, e⟩
 ·subst e
  unfold tabIds at ha
  rcases List.mem_append.1 ha with h | h
  ·rcases List.mem_append.1 h with h | h
   ·exact T.fl a (Option.mem_toList.1 h)
   ·exact (T.fs a (Option.mem_toList.1 h)).1
  ·obtain ⟨i, h1, h2⟩ := List.mem_filterMap.1 h
   exact (T.fw i a (List.mem_range.1 h1) h2).1
 ·exact T.fl a e
 ·exact (T.fs a e).1
 ·exact (T.fw i a hi e).1
theorem tabIds_l {Sl Ss : V} {W : Nat → V} {k a : Nat} (h : fpV Sl = some a) : a ∈ tabIds Sl Ss W k := List.mem_append_left _ (List.mem_append_left _ (Option.mem_toList.2 h))
theorem tabIds_s {Sl Ss : V} {W : Nat → V} {k a : Nat} (h : fpV Ss = some a) : a ∈ tabIds Sl Ss W k := List.mem_append_left _ (List.mem_append_right _ (Option.mem_toList.2 h))
theorem tabIds_w {Sl Ss : V} {W : Nat → V} {k a i : Nat} (hi : i < k) (h : fpV (W i) = some a) : a ∈ tabIds Sl Ss W k := List.mem_append_right _ (List.mem_filterMap.2 ⟨i, List.mem_range.2 hi, h⟩)
theorem TabV.at {t : Tb} {Sl Ss : V} {W : Nat → V} {h g : Heap} {n0 n m : Nat} (T : TabV t Sl Ss W h n0 n) (hm : n ≤ m) (e : ∀ a, a ∈ tabIds Sl Ss W t.lk.length → g a = h a) : TabV t Sl Ss W g n0 m :=
 ⟨T.kl.mono fun a h => e a (tabIds_l h), T.ks.mono fun a h => e a (tabIds_s h), fun i hi => (T.kw i hi).mono fun a h => e a (tabIds_w hi h),
  fun a h => ⟨(T.fl a h).1, by have := (T.fl a h).2; omega⟩, fun a h => ⟨⟨(T.fs a h).1.1, by have := (T.fs a h).1.2; omega⟩, (T.fs a h).2⟩, fun i a hi h => ⟨⟨(T.fw i a hi h).1.1, by have := (T.fw i a hi h).1.2; omega⟩, (T.fw i a hi h).2⟩⟩
theorem cellFlat {h : Heap} {v : V} {rows : List (List V)} {sz ty : Nat} (k : IsZ h v rows sz ty) : v.flat = true := by
 rcases k with ⟨rfl, _⟩ | ⟨id, rfl, _⟩ <;> rfl
theorem cellFlatL {h : Heap} {v : V} {rows : List (List V)} {sz ty : Nat} (k : IsL h v rows sz ty) : v.flat = true := by
 rcases k with ⟨rfl, _⟩ | ⟨id, pre, rfl, _⟩ <;> rfl
theorem rwFlat {L : List Lk} {W : Nat → V} (h : ∀ i, i < L.length → (W i).flat = true) : (rwW L W).map (·.map fl1) = rwW L W := by
 unfold rwW
 rw [List.map_map]
 refine List.map_congr_left fun i hi => ?_
 have := h i (List.mem_range.1 hi)
 simp only [Function.comp, Lk.V, List.map_cons, List.map_nil, fl1_id this]
 rfl
theorem snFlat (L : List Sn) : (L.map Sn.V).map (·.map fl1) = L.map Sn.V := by
 rw [List.map_map]; rfl
theorem wtFlat (L : List Wt) : (L.map wtV).map (·.map fl1) = L.map wtV := by
 rw [List.map_map]; rfl
theorem TabV.flat {t : Tb} {Sl Ss : V} {W : Nat → V} {h g : Heap} {n0 n m : Nat} (T : TabV t Sl Ss W h n0 n) (hm : n ≤ m) (e : ∀ a, a ∈ tabIds Sl Ss W t.lk.length → g a = (h a).map flB) : TabV t Sl Ss W g n0 m := by
 refine ⟨?_, ?_, fun i hi => ?_, fun a h => ⟨(T.fl a h).1, by have := (T.fl a h).2; omega⟩, fun a h => ⟨⟨(T.fs a h).1.1, by have := (T.fs a h).1.2; omega⟩, (T.fs a h).2⟩, fun i a hi h => ⟨⟨(T.fw i a hi h).1.1, by have := (T.fw i a hi h).1.2; omega⟩, (T.fw i a hi h).2⟩⟩
 ·rcases T.kl with ⟨h1, h2⟩ | ⟨lb, h1, h2⟩
  ·exact .inl ⟨h1, h2⟩
  ·refine .inr ⟨lb, h1, ?_⟩
   rw [e lb (tabIds_l (by rw [h1]; rfl)), h2]
   show some (Blk.mk ((rwW t.lk W).map (·.map fl1)) 5 29) = _
   rw [rwFlat (fun i hi => cellFlatL (T.kw i hi))]
 ·rcases T.ks with ⟨h1, h2⟩ | ⟨sb, h1, h2⟩
  ·exact .inl ⟨h1, h2⟩
  ·refine .inr ⟨sb, h1, ?_⟩
   rw [e sb (tabIds_s (by rw [h1]; rfl)), h2]
   show some (Blk.mk ((t.sn.map Sn.V).map (·.map fl1)) 6 115) = _
   rw [snFlat]
 ·rcases T.kw i hi with ⟨h1, h2⟩ | ⟨wb, pre, h1, h2⟩
  ·exact .inl ⟨h1, h2⟩
  ·refine .inr ⟨wb, pre.map (·.map fl1), by rw [List.length_map]; exact h1, ?_⟩
   rw [e wb (tabIds_w hi (by rw [h1]; rfl)), h2]
   show some (Blk.mk ((pre ++ (t.lk.getD i Lk0).ws.map wtV).map (·.map fl1)) 2 123) = _
   rw [List.map_append, wtFlat]
theorem Fresh.of {f : FuncId} {args : List V} {n : Nat} {t : Tb} {mk : V → V → V} {Z : V → V → (Nat → V) → Prop}
  (H : OpenM En f args (fun _ => none) n (fun v g m => ∃ Sl Ss W, v = mk Sl Ss ∧ TabV t Sl Ss W g n m ∧ Z Sl Ss W)) :
  ∃ Sl Ss W wr m, Fresh t Sl Ss W wr n m ∧ Z Sl Ss W ∧ V.Open En f args (fun _ => none) n (mk Sl Ss) wr m := by
 obtain ⟨⟨v, wr, m⟩, ⟨Sl, Ss, W, hv, T, z⟩, hO⟩ := H
 dsimp only at hv T hO
 subst hv
 have hle := hO.le
 have key : ∀ i b, app (mkWr (fun a => if a ∈ tabIds Sl Ss W t.lk.length then (app wr (fun _ => none) a).map flB else none) n (tabIds Sl Ss W t.lk.length)) (fun _ => none) i = some b → ∃ b0, app wr (fun _ => none) i = some b0 ∧ b = flB b0 := fun i b hb => by
  have h1 := mkWr_less _ _ _ _ _ hb
  (try dsimp only at h1)
  split at h1
  ·obtain ⟨b0, h2, h3⟩ := Option.map_eq_some_iff.1 h1
   exact ⟨b0, h2, h3.symm⟩
  ·cases h1
 refine ⟨Sl, Ss, W, mkWr (fun a => if a ∈ tabIds Sl Ss W t.lk.length then (app wr (fun _ => none) a).map flB else none) n (tabIds Sl Ss W t.lk.length), m + 1, ⟨T.flat (Nat.le_succ _) (fun a ha => ?_), fun a ha => ?_, fun i b hb e he x hx => ?_, fun a ha => ?_, fun e => ?_⟩, z, V.Open.weakN (V.Open.lessF hO key) (Nat.le_succ _)⟩
 ·rw [mkWr_app _ _ _ _ a (List.mem_append_left _ ha), if_pos ha]
 ·rw [mkWr_fst] at ha
  rcases List.mem_append.1 ha with h | h
  ·have := tabIds_V T h; omega
  ·have := List.mem_singleton.1 h; omega
 ·obtain ⟨b0, _, rfl⟩ := key i b hb
  obtain ⟨e0, _, rfl⟩ := List.mem_map.1 he
  obtain ⟨x0, _, rfl⟩ := List.mem_map.1 hx
  exact fl1_flat x0
 ·rw [mkWr_fst]; exact List.mem_append_left _ ha
 ·have := congrArg (List.map (·.1)) e
  rw [mkWr_fst] at this
  simp at this
theorem snapT1 {h : Heap} {ids : List Nat} {r : Bool} {v : V} {L : List Wt} (k : IsL h v (L.map wtV) 2 123) (hn : fpV v ≠ none) (hid : ∀ a, fpV v = some a → a ∈ ids) : Snap h ids r v (.sl true (L.map wtT)) := by
 rcases k with ⟨rfl, k⟩ | ⟨id, pre, rfl, k⟩
 ·exact absurd rfl hn
 ·exact snapWsP (hid id rfl) k rfl (by simp)
theorem snapT2 {h : Heap} {ids : List Nat} {r : Bool} {v : V} {L : List Sn} (k : IsZ h v (L.map Sn.V) 6 115) (hn : fpV v ≠ none) (hid : ∀ a, fpV v = some a → a ∈ ids) : Snap h ids r v (.sl true (L.map Sn.T)) := by
 rcases k with ⟨rfl, k⟩ | ⟨id, rfl, k⟩
 ·exact absurd rfl hn
 ·exact snapSn (hid id rfl) k (by simp)
theorem snapT3 {h : Heap} {ids : List Nat} {r : Bool} {v : V} {L : List Lk} {W : Nat → V} (k : IsZ h v (rwW L W) 5 29) (hn : fpV v ≠ none) (hid : ∀ a, fpV v = some a → a ∈ ids) (hw : ∀ i, i < L.length → Snap h ids r (W i) (.sl true ((L.getD i Lk0).ws.map wtT))) : Snap h ids r v (.sl true (L.map (Lk.T true))) := by
 rcases k with ⟨rfl, k⟩ | ⟨id, rfl, k⟩
 ·exact absurd rfl hn
 ·have e : ((rwW L W).drop 0).take (rwW L W).length = rwW L W := by rw [List.drop_zero, List.take_of_length_le (Nat.le_refl _)]
  have e2 : ∀ i, i < L.length → (L.map (Lk.T true))[i]? = some ((L.getD i Lk0).T true) := fun i h => getMap (Lk.T true) Lk0 h
  refine .view id 0 _ _ _ (hid id rfl) k (by dsimp only; omega) (by rw [rwW_len]; simp) (fun i x y h1 h2 => ?_) (fun i j x y h1 h2 => ?_)
  ·dsimp only at h1
   rw [e] at h1
   have hi : i < L.length := by have := (List.getElem?_eq_some_iff.1 h1).1; rw [rwW_len] at this; exact this
   rw [rwW_get hi] at h1; rw [e2 i hi] at h2
   cases h1; cases h2; rfl
  ·dsimp only at h1
   rw [e] at h1
   unfold get2 at h1 h2
   by_cases hi : i < L.length
   ·rw [rwW_get hi] at h1; rw [e2 i hi] at h2
    match j with
    | 0 => cases h1; cases h2; exact .str _
    | 1 => cases h1; cases h2; exact .int _ _
    | 2 => cases h1; cases h2; exact .int _ _
    | 3 => cases h1; cases h2; exact .int _ _
    | 4 => cases h1; cases h2; exact hw i hi
    | j + 5 => exact absurd h1 nofun
   ·rw [show (rwW L W)[i]? = none from List.getElem?_eq_none (by rw [rwW_len]; omega)] at h1; exact absurd h1 nofun
def AllV (k : Nat) (Sl Ss : V) (W : Nat → V) : Prop := fpV Sl ≠ none ∧ fpV Ss ≠ none ∧ ∀ i, i < k → fpV (W i) ≠ none
theorem snapTabT {t : Tb} {Sl Ss : V} {W : Nat → V} {h : Heap} {n0 n : Nat} {ids : List Nat} {r : Bool} (T : TabV t Sl Ss W h n0 n) (z : AllV t.lk.length Sl Ss W) (hid : ∀ a, a ∈ tabIds Sl Ss W t.lk.length → a ∈ ids) :
  SnapA h ids r (.agg [.int .i64 t.tm, .int .i64 t.nx, Sl, Ss]) (.agg (t.T true true true)) :=
 SnapC.agg (.cons _ _ _ _ (.int _ _) (.cons _ _ _ _ (.int _ _) (.cons _ _ _ _ (snapT3 T.kl z.1 (fun a ha => hid a (tabIds_l ha)) (fun i hi => snapT1 (T.kw i hi) (z.2.2 i hi) (fun a ha => hid a (tabIds_w hi ha)))) (.cons _ _ _ _ (snapT2 T.ks z.2.1 (fun a ha => hid a (tabIds_s ha))) .nil))))
theorem snapTabF {t : Tb} {Sl Ss : V} {W : Nat → V} {h : Heap} {n0 n : Nat} {ids : List Nat} {r : Bool} (T : TabV t Sl Ss W h n0 n) (hid : ∀ a, a ∈ tabIds Sl Ss W t.lk.length → a ∈ ids) :
  SnapA h ids r (.agg [.int .i64 t.tm, .int .i64 t.nx, Sl, Ss]) (.agg (t.T false false false)) := snapTab T.kl T.ks T.kw hid
theorem s36 (r : Rq) (k : Int) (hk : 0 ≤ k ∧ k ≤ 1048576) (hn : r.nm.size ≤ 9223372036854775807) : ∃ x : Int, True ∧ Pure En 36 [.agg r.T, .one (.int .i64 k)] [.one (.int .i64 x)] := by
 refine Pure.of_wpX (R := fun x : Int => [.one (.int .i64 x)]) (p := fun _ => True) Try.func36 rfl (Nat.le_of_ble_eq_true rfl) ?_
 refine wSeq (wRegion (rbx (u := .agg [.int _ _, .int _ _, .int _ _, .int _ _, .str _]) rfl rfl rfl rfl rfl rfl rfl (raI rfl rfl rfl rfl rfl (rNil (qSeq (wSeq (wRegion (rmI rfl rfl rfl rfl rfl (rfa (off := 4) (s := 1) (r := false) rfl rfl rfl (Nat.succ_ne_zero _) rfl rfl rfl ?_)))))))))
 (apply rlc (v := .str _) rfl rfl; exact Q0; rfl; rfl; rfl; rfl; rfl; rfl)
 refine rls rfl rfl rfl rfl rfl rfl (rsubF rfl rfl rfl ?_ ?_ rfl rfl rfl ?_)
 ·omega
 ·omega
 refine raI rfl rfl rfl rfl rfl (rNil (qSeq (wSeq (wSeq (wRegion (rmI rfl rfl rfl rfl rfl ?_))))))
 refine rlt rfl rfl rfl rfl rfl rfl ?_ ?_ <;> intro h2_1
 ·refine rNil (qSeq (wT rfl (wSeq (wRegion (raI rfl rfl rfl rfl rfl (rNil (qSeq (wRet (qSeqR ?_)))))))))
  exact ⟨_, trivial, fin rfl rfl⟩
 ·refine rNil (qSeq (wF rfl (wSkip (qSeq (wSeq (wRegion (rmI rfl rfl rfl rfl rfl (raI rfl rfl rfl rfl rfl (rNil (qSeq (wRet ?_)))))))))))
  exact ⟨_, trivial, fin rfl rfl⟩
theorem s38 (r : Rq) : Pure En 38 [.agg r.T] [.agg r.T] := by
 refine Pure.of_wp Try.func38 rfl (Nat.le_of_ble_eq_true rfl) ?_
 refine wSeq (wRegion (rbx (u := .agg [.int _ _, .int _ _, .int _ _, .int _ _, .str _]) rfl rfl rfl rfl rfl rfl rfl (ral rfl rfl rfl rfl rfl rfl (rNil (qSeq (wSeq (wRegion (ral rfl rfl rfl rfl rfl rfl (rNil (qSeq (wSeq (wRegion ?_))))))))))))
 refine rfa (off := 0) (s := 1) (r := false) rfl rfl rfl (Nat.succ_ne_zero _) rfl rfl rfl ?_
 (apply rlc (v := .int _ _) rfl rfl; exact Q0; rfl; rfl; rfl; rfl; rfl; rfl)
 refine rfa (off := 0) (s := 1) (r := false) rfl rfl rfl (Nat.succ_ne_zero _) rfl rfl rfl ?_
 (apply rst (u := .int _ _) rfl rfl rfl; exact Q0; rfl; rfl; rfl; rfl; rfl; (exact Nat.le_of_ble_eq_true rfl); rfl; rfl; rfl)
 refine rNil (qSeq (wSeq (wRegion (rfa (off := 1) (s := 1) (r := false) rfl rfl rfl (Nat.succ_ne_zero _) rfl rfl rfl ?_))))
 (apply rlc (v := .int _ _) rfl rfl; exact Q0; rfl; rfl; rfl; rfl; rfl; rfl)
 refine rfa (off := 1) (s := 1) (r := false) rfl rfl rfl (Nat.succ_ne_zero _) rfl rfl rfl ?_
 (apply rst (u := .int _ _) rfl rfl rfl; exact Q0; rfl; rfl; rfl; rfl; rfl; (exact Nat.le_of_ble_eq_true rfl); rfl; rfl; rfl)
 refine rNil (qSeq (wSeq (wRegion (rfa (off := 2) (s := 1) (r := false) rfl rfl rfl (Nat.succ_ne_zero _) rfl rfl rfl ?_))))
 (apply rlc (v := .int _ _) rfl rfl; exact Q0; rfl; rfl; rfl; rfl; rfl; rfl)
 refine rfa (off := 2) (s := 1) (r := false) rfl rfl rfl (Nat.succ_ne_zero _) rfl rfl rfl ?_
 (apply rst (u := .int _ _) rfl rfl rfl; exact Q0; rfl; rfl; rfl; rfl; rfl; (exact Nat.le_of_ble_eq_true rfl); rfl; rfl; rfl)
 refine rNil (qSeq (wSeq (wRegion (rfa (off := 3) (s := 1) (r := false) rfl rfl rfl (Nat.succ_ne_zero _) rfl rfl rfl ?_))))
 (apply rlc (v := .int _ _) rfl rfl; exact Q0; rfl; rfl; rfl; rfl; rfl; rfl)
 refine rfa (off := 3) (s := 1) (r := false) rfl rfl rfl (Nat.succ_ne_zero _) rfl rfl rfl ?_
 (apply rst (u := .int _ _) rfl rfl rfl; exact Q0; rfl; rfl; rfl; rfl; rfl; (exact Nat.le_of_ble_eq_true rfl); rfl; rfl; rfl)
 refine rNil (qSeq (wSeq (wRegion (rfa (off := 4) (s := 1) (r := false) rfl rfl rfl (Nat.succ_ne_zero _) rfl rfl rfl ?_))))
 (apply rlc (v := .str _) rfl rfl; exact Q0; rfl; rfl; rfl; rfl; rfl; rfl)
 refine rfa (off := 4) (s := 1) (r := false) rfl rfl rfl (Nat.succ_ne_zero _) rfl rfl rfl ?_
 (apply rst (u := .str _) rfl rfl rfl; exact Q0; rfl; rfl; rfl; rfl; rfl; (exact Nat.le_of_ble_eq_true rfl); rfl; rfl; rfl)
 refine rNil (qSeq (wSeq (wRegion ?_)))
 (apply rlr (vs := [.int _ _, .int _ _, .int _ _, .int _ _, .str _]) rfl rfl; exact Q0; rfl; rfl; (exact Nat.le_of_ble_eq_true rfl); rfl; rfl; rfl; rfl)
 (apply rst (u := .agg [.int _ _, .int _ _, .int _ _, .int _ _, .str _]) rfl rfl rfl; exact Q0; rfl; rfl; rfl; rfl; rfl; (exact Nat.le_of_ble_eq_true rfl); rfl; rfl; rfl)
 refine rNil (qSeq (wRet ?_))
 exact fin (resL_cons (resV_row rfl (by exact Q0) rfl rfl (Nat.le_of_ble_eq_true rfl) rfl) resL_nil) rfl
open Go.V
theorem R0 {P : Prop} (h : P := by (intro x hx; (try apply And.intro) <;> intro hy <;> (first | (have q1 := F0.id _ hx) | (have q1 := F1.id _ hx) | (have q1 := F2.id _ hx) | (have q1 := F3.id _ hx) | (have q1 := F7.id _ hx) | (have q1 := F8.id _ hx) | (have q1 := tabIds_V F0.tv hx) | (have q1 := tabIds_V F1.tv hx) | (have q1 := tabIds_V F7.tv hx) | (have q1 := List.mem_singleton.1 hx) | (rcases List.mem_cons.1 hx with q1 | hx <;> (first | omega | (have q1 := tabIds_V F1.tv hx) | (have q1 := tabIds_V F0.tv hx) | (have q1 := tabIds_V F7.tv hx) | skip)) | (exact absurd hx List.not_mem_nil) | skip) <;> (first | (have q2 := F0.id _ hy) | (have q2 := F1.id _ hy) | (have q2 := F2.id _ hy) | (have q2 := F3.id _ hy) | (have q2 := F7.id _ hy) | (have q2 := F8.id _ hy) | (have q2 := tabIds_V F0.tv hy) | (have q2 := tabIds_V F1.tv hy) | (have q2 := tabIds_V F7.tv hy) | (have q2 := List.mem_singleton.1 hy) | (rcases List.mem_cons.1 hy with q2 | hy <;> (first | omega | (have q2 := tabIds_V F1.tv hy) | (have q2 := tabIds_V F0.tv hy) | (have q2 := tabIds_V F7.tv hy) | skip)) | (exact absurd hy List.not_mem_nil) | skip) <;> (try dsimp only at q1) <;> (try dsimp only at q2) <;> omega)) : P := h
set_option linter.unusedVariables false
set_option linter.unusedSimpArgs false
set_option maxRecDepth 20000
set_option maxHeartbeats 4000000
theorem clsC {e : Ef} {es : List Ef} {k : Nat} {ks : List Nat} (h : e.cls = k) (hs : es.map Ef.cls = ks) : (e :: es).map Ef.cls = k :: ks := by rw [List.map_cons, h, hs]
theorem clsW {e : Ef} (h : e.wr ≠ []) : e.cls = 3 := by
 unfold Ef.cls
 split <;> first | rfl | (rename_i h1 _; exact absurd h1 h) | (rename_i h1 _ _; exact absurd h1 h) | (rename_i h1; exact absurd h1 h)
theorem o11x (t : Tb) (n1 n2 : Bool) (hL : t.lk.length ≤ 1048576) (hW : ∀ i, i < t.lk.length → (t.lk.getD i Lk0).ws.length ≤ 1048576) (hS : t.sn.length ≤ 1048576) (n : Nat) :
  ∃ Sl Ss W wr m, Fresh t Sl Ss W wr n m ∧ AllV t.lk.length Sl Ss W ∧ V.Open En 11 ([A.agg (t.T false n1 n2)].map (A.toV false)) (fun _ => none) n (.agg [.int .i64 t.tm, .int .i64 t.nx, Sl, Ss]) wr m := by
 refine Fresh.of (mk := fun Sl Ss => .agg [.int .i64 t.tm, .int .i64 t.nx, Sl, Ss]) (V.Open.toM (o11 t false n1 n2 hL hW hS (h := fun _ => none) (n := n)) ⟨_, _, (fun i => .view (n + 3 + 1 + 4 * i + 3) 0 (t.lk.getD i Lk0).ws.length), rfl, ⟨.inr ⟨n + 3, by rw [rwW_len], ?_⟩, .inr ⟨n + 3 + 1 + 4 * t.lk.length, by rw [List.length_map], ?_⟩, fun i hi => .inr ⟨_, [], by rw [List.length_map]; rfl, ?_⟩, fun a ha => ?_, fun a ha => ?_, fun i a hi ha => ?_⟩, ⟨nofun, nofun, fun i hi => nofun⟩⟩)
 ·refine Eq.trans (b := some ⟨lkR (fun i => n + 3 + 1 + 4 * i + 3) t.lk, 5, 29⟩) ?_ rfl
  rw [app_append, famO (fun i hi => by (try dsimp only); omega)] <;> (simp (disch := (first | omega | assumption)) only [↓appC, ↓updN, ↓updS, ↓app0])
 ·rw [app_append, famO (fun i hi => by (try dsimp only); omega)] <;> (simp (disch := (first | omega | assumption)) only [↓appC, ↓updN, ↓updS, ↓app0])
 ·exact famA (w := fun i => n + 3 + 1 + 4 * i + 3) (fun a b _ _ e => by (try dsimp only at e); omega) hi
 ·cases ha; omega
 ·cases ha; exact ⟨by omega, fun e => by have e := Option.some.inj e; omega⟩
 ·have ha := Option.some.inj ha
  (try dsimp only at ha)
  exact ⟨by omega, fun e => by have e := Option.some.inj e; omega, fun e => by have e := Option.some.inj e; omega, fun j hj hn e => by have e := Option.some.inj e; (try dsimp only at e); omega⟩
theorem o27x (t : Tb) (now : Int) (r : Rq) (n : Nat) : ∃ Sl Ss W wr m, Fresh (apA t now r).1 Sl Ss W wr n m ∧ True ∧ V.Open En 27 ([A.agg (t.T true true true), A.one (.int .i64 now), A.agg r.T].map (A.toV false)) (fun _ => none) n (.tup [.agg [.int .i64 (apA t now r).1.tm, .int .i64 (apA t now r).1.nx, Sl, Ss], .agg (apA t now r).2.1.V, .int .i64 (apA t now r).2.2]) wr m := by
 refine Fresh.of (mk := fun Sl Ss => .tup [.agg [.int .i64 (apA t now r).1.tm, .int .i64 (apA t now r).1.nx, Sl, Ss], .agg (apA t now r).2.1.V, .int .i64 (apA t now r).2.2]) (Z := fun _ _ _ => True) (OpenM.conv (o27 t now r (h := fun _ => none) (n := n)) ?_)
 rintro v g m ⟨Sl, Ss, W, h1, h2, _, _⟩
 exact ⟨Sl, Ss, W, h1, h2, trivial⟩
theorem aggFlat {a b : Int} {Sl Ss : V} (h1 : Sl.flat = true) (h2 : Ss.flat = true) : (V.agg [.int .i64 a, .int .i64 b, Sl, Ss]).flat3 = true := by
 show (Sl.flat && (Ss.flat && true)) = true; rw [h1, h2]; rfl
theorem tupFlat {a b c : Int} {Sl Ss : V} {an : An} (h1 : Sl.flat = true) (h2 : Ss.flat = true) : (V.tup [.agg [.int .i64 a, .int .i64 b, Sl, Ss], .agg an.V, .int .i64 c]).flat3 = true := by
 show ((Sl.flat && (Ss.flat && true)) && true) = true; rw [h1, h2]; rfl
theorem apply_law (t : Tb) (now : Int) (r : Rq) (n1 n2 : Bool) (X : Tb) (an : An) (code : Int) (hL : t.lk.length ≤ 1048576) (hW : ∀ i, i < t.lk.length → (t.lk.getD i Lk0).ws.length ≤ 1048576) (hS : t.sn.length ≤ 1048576) (hX1 : X.lk.length ≤ 1048577) (hX2 : ∀ i, i < X.lk.length → (X.lk.getD i Lk0).ws.length ≤ 1048577) (hX3 : X.sn.length ≤ 1048577)
  (hm : t.lk.length ≤ 9223372036854775807) (hz : ∀ i, i < t.lk.length → (t.lk.getD i Lk0).nm.size ≤ 9223372036854775807 ∧ (t.lk.getD i Lk0).ws.length ≤ 9223372036854775807) (ha : t.sn.length ≤ 9223372036854775807) (hrn : r.nm.size ≤ 9223372036854775807)
  (hs37 : Pure En 37 [.agg (t.T false false false), .one (.int .i64 now), .agg r.T] [.agg (X.T true false false), .agg an.T, .one (.int .i64 code)])
  (hO2 : ∀ n, ∃ Sl Ss W wr m, Fresh X Sl Ss W wr n m ∧ True ∧ V.Open En 27 ([A.agg (t.T true true true), A.one (.int .i64 now), A.agg r.T].map (A.toV false)) (fun _ => none) n (.tup [.agg [.int .i64 X.tm, .int .i64 X.nx, Sl, Ss], .agg an.V, .int .i64 code]) wr m) :
  Pure En 8 [.agg (t.T false n1 n2), .one (.int .i64 now), .agg r.T] [.one (.bool true)] := by
 have hML : ∀ {Sl Ss : V} {W : Nat → V} (a : Nat), a ∈ tabIds Sl Ss W (Tb.mk X.tm X.nx (ML 1 X.lk) (MS (kL 1 X.lk) X.sn.length)).lk.length → a ∈ tabIds Sl Ss W X.lk.length := fun a h => by
  have e : (Tb.mk X.tm X.nx (ML 1 X.lk) (MS (kL 1 X.lk) X.sn.length)).lk.length = X.lk.length := ML_len _ _
  rwa [e] at h
 refine Pure.of_wp Try.func8 rfl (Nat.le_of_ble_eq_true rfl) ?_
 refine wSeq (wRegion (rbx (u := .agg [.int _ _, .int _ _, _, _]) rfl rfl rfl rfl rfl rfl rfl (rbx (u := .agg [.int _ _, .int _ _, .int _ _, .int _ _, .str _]) rfl rfl rfl rfl rfl rfl rfl (raB rfl rfl rfl rfl rfl (rNil (qSeq (wSeq (wRegion (raI rfl rfl rfl rfl rfl (rNil (qSeq (wSeq ?_))))))))))))
 refine wRegion ?_
 (apply rlr (vs := [.int _ _, .int _ _, _, _]) rfl rfl; exact Q4; exact Q13; rfl; (exact Nat.le_of_ble_eq_true rfl); rfl; rfl; rfl; rfl)
 refine rmI rfl rfl rfl rfl rfl (rclX (s9 n1 n2 false t 1048576 (by omega) hm hz ha) rfl rfl rfl rfl rfl rfl ?_)
 rintro x h2_2
 try dsimp only at h2_2
 refine raI rfl rfl rfl rfl rfl (rNil (qSeq (wSeq (wSeq (wRegion (rmI rfl rfl rfl rfl rfl ?_))))))
 refine rlt rfl rfl rfl rfl rfl rfl ?_ ?_ <;> intro h3_1
 ·refine rNil (qSeq (wT rfl (wSeq (wRegion (raB rfl rfl rfl rfl rfl (rNil (qSeq (wRet (qSeqR ?_)))))))))
  exact fin rfl rfl
 ·refine rNil (qSeq (wF rfl (wSkip (qSeq (wSeq (wRegion ?_))))))
  (apply rlr (vs := [.int _ _, .int _ _, .int _ _, .int _ _, .str _]) rfl rfl; exact Q4; exact Q13; rfl; (exact Nat.le_of_ble_eq_true rfl); rfl; rfl; rfl; rfl)
  refine rmI rfl rfl rfl rfl rfl ?_
  refine rclX (s36 r x ⟨by omega, by have := h2_2.1.2; omega⟩ hrn) rfl rfl rfl rfl rfl rfl ?_
  rintro y h5_2
  try dsimp only at h5_2
  skip
  refine raI rfl rfl rfl rfl rfl (rNil (qSeq (wSeq (wSeq (wRegion (rmI rfl rfl rfl rfl rfl ?_))))))
  refine rlt rfl rfl rfl rfl rfl rfl ?_ ?_ <;> intro h6_1
  ·refine rNil (qSeq (wT rfl (wSeq (wRegion (raB rfl rfl rfl rfl rfl (rNil (qSeq (wRet (qSeqR ?_)))))))))
   exact fin rfl rfl
  ·refine rNil (qSeq (wF rfl (wSkip (qSeq (wSeq ?_)))))
   obtain ⟨Sl0, Ss0, W0, wr0, e0, F0, z0, O0⟩ := o11x t n1 n2 hL hW hS (0 + 1 + 1)
   have le0 := O0.le
   obtain ⟨Sl1, Ss1, W1, wr1, e1, F1, z1, O1⟩ := o11x t n1 n2 hL hW hS (e0 + 1 + 1)
   have le1 := O1.le
   obtain ⟨Sl2, Ss2, W2, wr2, e2, F2, _, O2⟩ := hO2 (e1 + 1)
   have le2 := O2.le
   obtain ⟨Sl3, Ss3, W3, wr3, e3, F3, z3, O3⟩ := o11x t n1 n2 hL hW hS (e2 + 1 + 1)
   have le3 := O3.le
   refine wDraw [0, 1, 0, 0, 11, 31, 63, 127, 127, 127, 0, 0, 3327, 7679, 16383] rfl (by decide +kernel) ?_
   (apply dlr (vs := [.int _ _, .int _ _, _, _]) rfl rfl; exact Q4; exact Q13; rfl; (exact Nat.le_of_ble_eq_true rfl); rfl; rfl; rfl; rfl)
   (apply dfs [] O0 rfl rfl rfl; exact (SnapL.cons _ _ _ _ (SnapC.agg (.cons _ _ _ _ (.int _ _) (.cons _ _ _ _ (.int _ _) (.cons _ _ _ _ (.sl _ _ _ (fun h => by cases h)) (.cons _ _ _ _ (.sl _ _ _ (fun h => by cases h)) .nil))))) SnapL.nil); exact aggFlat (cellFlat F0.tv.kl) (cellFlat F0.tv.ks); exact F0.fl; exact F0.ne; rfl; rfl; rfl)
   refine dmI rfl rfl rfl rfl rfl ?_
   (apply dlr (vs := [.int _ _, .int _ _, .int _ _, .int _ _, .str _]) rfl rfl; exact Q4; exact Q13; rfl; (exact Nat.le_of_ble_eq_true rfl); rfl; rfl; rfl; rfl)
   refine dcl (s38 r) rfl rfl rfl rfl rfl rfl ?_
   apply dclS (0 :: tabIds Sl0 Ss0 W0 t.lk.length) hs37 rfl rfl rfl
   ·exact (SnapL.cons _ _ _ _ (snapTabF (F0.tv.at (Nat.le_refl _) (fun a ha => app_mem _ _ _ _ (F0.own a ha))) (fun a ha => List.mem_cons_of_mem _ ha)) (SnapL.cons _ _ _ _ (.one _ _ (.int _ _)) (SnapL.cons _ _ _ _ (SnapC.agg (.cons _ _ _ _ (.int _ _) (.cons _ _ _ _ (.int _ _) (.cons _ _ _ _ (.int _ _) (.cons _ _ _ _ (.int _ _) (.cons _ _ _ _ (.str _) .nil)))))) SnapL.nil)))
   ·rfl
   ·rfl
   ·rfl
   refine dmT rfl rfl rfl rfl rfl (dex rfl rfl rfl rfl rfl rfl (dex rfl rfl rfl rfl rfl rfl (dex rfl rfl rfl rfl rfl rfl (dal rfl rfl rfl rfl rfl rfl (dal rfl rfl rfl rfl rfl rfl ?_)))))
   (apply dst (u := .agg [.int _ _, .int _ _, _, _]) rfl rfl rfl; exact Q4; exact Q13; rfl; rfl; rfl; exact Q20; (exact Nat.le_of_ble_eq_true rfl); rfl; rfl; rfl)
   (apply dst (u := .agg [.int _ _, .int _ _, .int _ _, .int _ _]) rfl rfl rfl; exact Q4; exact Q13; rfl; rfl; rfl; exact Q20; (exact Nat.le_of_ble_eq_true rfl); rfl; rfl; rfl)
   refine daI rfl rfl rfl rfl rfl (dNilR 15 [0, 3, 3, 3, 3, 0, 0, 0, 0, 1, 0, 1, 0, 3, 1] [(1, 3), (0, 10), (1, 10), (3, 10), (5, 10), (0, 11), (1, 11), (3, 11), (5, 11), (10, 11)] rfl (by repeat' (first | exact rfl | apply clsC rfl | apply clsC (clsW F0.ne))) (by decide +kernel) ?_ ?_)
   ·(repeat' (first | exact True.intro | (intro hq; cases hq; done) | exact R0 | apply And.intro))
   refine qSeq (wSeq ?_)
   refine wpG fun G1 hG1 => ?_
   have b0G1 : G1 (0) = some ⟨[[.int .i64 t.tm, .int .i64 t.nx, .sl false n1 (t.lk.map (Lk.T false)), .sl false n2 (t.sn.map Sn.T)]], 4, 25⟩ := by rw [hG1]; (simp (disch := (first | omega | assumption | (refine mt (F0.id _) ?_; omega) | (refine mt (F1.id _) ?_; omega) | (refine mt (F2.id _) ?_; omega) | (refine mt (F3.id _) ?_; omega) | (refine mt (F7.id _) ?_; omega) | (refine mt (F8.id _) ?_; omega) | fail)) only [↓appC, ↓updN, ↓updS, ↓app0, ↓appN]); rfl
   have b1G1 : G1 (0 + 1) = some ⟨[[.int .i64 r.cl, .int .i64 r.st, .int .i64 r.kd, .int .i64 r.le, .str r.nm]], 5, 74⟩ := by rw [hG1]; (simp (disch := (first | omega | assumption | (refine mt (F0.id _) ?_; omega) | (refine mt (F1.id _) ?_; omega) | (refine mt (F2.id _) ?_; omega) | (refine mt (F3.id _) ?_; omega) | (refine mt (F7.id _) ?_; omega) | (refine mt (F8.id _) ?_; omega) | fail)) only [↓appC, ↓updN, ↓updS, ↓app0, ↓appN]); rfl
   have k8G1 : G1 (e0) = some ⟨[[.int .i64 X.tm, .int .i64 X.nx, .sl true false (X.lk.map (Lk.T true)), .sl true false (X.sn.map Sn.T)]], 4, 35⟩ := by rw [hG1]; (simp (disch := (first | omega | assumption | (refine mt (F0.id _) ?_; omega) | (refine mt (F1.id _) ?_; omega) | (refine mt (F2.id _) ?_; omega) | (refine mt (F3.id _) ?_; omega) | (refine mt (F7.id _) ?_; omega) | (refine mt (F8.id _) ?_; omega) | fail)) only [↓appC, ↓updN, ↓updS, ↓app0, ↓appN]); rfl
   have k9G1 : G1 (e0 + 1) = some ⟨[[.int .i64 an.kd, .int .i64 an.tk, .int .i64 an.hd, .int .i64 an.ex]], 4, 60⟩ := by rw [hG1]; (simp (disch := (first | omega | assumption | (refine mt (F0.id _) ?_; omega) | (refine mt (F1.id _) ?_; omega) | (refine mt (F2.id _) ?_; omega) | (refine mt (F3.id _) ?_; omega) | (refine mt (F7.id _) ?_; omega) | (refine mt (F8.id _) ?_; omega) | fail)) only [↓appC, ↓updN, ↓updS, ↓app0, ↓appN]); rfl
   refine wRegion ?_
   (apply rlr (vs := [.int _ _, .int _ _, _, _]) rfl rfl; exact Q4; exact Q13; rfl; (exact Nat.le_of_ble_eq_true rfl); rfl; rfl; rfl; rfl)
   (apply rfs [] O1 rfl rfl rfl; exact (SnapL.cons _ _ _ _ (SnapC.agg (.cons _ _ _ _ (.int _ _) (.cons _ _ _ _ (.int _ _) (.cons _ _ _ _ (.sl _ _ _ (fun h => by cases h)) (.cons _ _ _ _ (.sl _ _ _ (fun h => by cases h)) .nil))))) SnapL.nil); exact aggFlat (cellFlat F1.tv.kl) (cellFlat F1.tv.ks); exact F1.fl; exact F1.ne; rfl; rfl; rfl)
   refine ral rfl rfl rfl rfl rfl rfl ?_
   (apply rst (u := .agg [.int _ _, .int _ _, _, _]) rfl rfl rfl; exact Q4; exact Q13; rfl; rfl; rfl; exact Q20; (exact Nat.le_of_ble_eq_true rfl); rfl; rfl; rfl)
   refine rNil (qSeq (wSeq ?_))
   refine wpG fun G2 hG2 => ?_
   have b0G2 : G2 (0) = some ⟨[[.int .i64 t.tm, .int .i64 t.nx, .sl false n1 (t.lk.map (Lk.T false)), .sl false n2 (t.sn.map Sn.T)]], 4, 25⟩ := by rw [hG2]; (simp (disch := (first | omega | assumption | (refine mt (F0.id _) ?_; omega) | (refine mt (F1.id _) ?_; omega) | (refine mt (F2.id _) ?_; omega) | (refine mt (F3.id _) ?_; omega) | (refine mt (F7.id _) ?_; omega) | (refine mt (F8.id _) ?_; omega) | fail)) only [↓appC, ↓updN, ↓updS, ↓app0, ↓appN]); exact b0G1
   have b1G2 : G2 (0 + 1) = some ⟨[[.int .i64 r.cl, .int .i64 r.st, .int .i64 r.kd, .int .i64 r.le, .str r.nm]], 5, 74⟩ := by rw [hG2]; (simp (disch := (first | omega | assumption | (refine mt (F0.id _) ?_; omega) | (refine mt (F1.id _) ?_; omega) | (refine mt (F2.id _) ?_; omega) | (refine mt (F3.id _) ?_; omega) | (refine mt (F7.id _) ?_; omega) | (refine mt (F8.id _) ?_; omega) | fail)) only [↓appC, ↓updN, ↓updS, ↓app0, ↓appN]); exact b1G1
   have k8G2 : G2 (e0) = some ⟨[[.int .i64 X.tm, .int .i64 X.nx, .sl true false (X.lk.map (Lk.T true)), .sl true false (X.sn.map Sn.T)]], 4, 35⟩ := by rw [hG2]; (simp (disch := (first | omega | assumption | (refine mt (F0.id _) ?_; omega) | (refine mt (F1.id _) ?_; omega) | (refine mt (F2.id _) ?_; omega) | (refine mt (F3.id _) ?_; omega) | (refine mt (F7.id _) ?_; omega) | (refine mt (F8.id _) ?_; omega) | fail)) only [↓appC, ↓updN, ↓updS, ↓app0, ↓appN]); exact k8G1
   have k9G2 : G2 (e0 + 1) = some ⟨[[.int .i64 an.kd, .int .i64 an.tk, .int .i64 an.hd, .int .i64 an.ex]], 4, 60⟩ := by rw [hG2]; (simp (disch := (first | omega | assumption | (refine mt (F0.id _) ?_; omega) | (refine mt (F1.id _) ?_; omega) | (refine mt (F2.id _) ?_; omega) | (refine mt (F3.id _) ?_; omega) | (refine mt (F7.id _) ?_; omega) | (refine mt (F8.id _) ?_; omega) | fail)) only [↓appC, ↓updN, ↓updS, ↓app0, ↓appN]); exact k9G1
   have k11G2 : G2 (e1) = some ⟨[[.int .i64 t.tm, .int .i64 t.nx, Sl1, Ss1]], 4, 35⟩ := by rw [hG2]; (simp (disch := (first | omega | assumption | (refine mt (F0.id _) ?_; omega) | (refine mt (F1.id _) ?_; omega) | (refine mt (F2.id _) ?_; omega) | (refine mt (F3.id _) ?_; omega) | (refine mt (F7.id _) ?_; omega) | (refine mt (F8.id _) ?_; omega) | fail)) only [↓appC, ↓updN, ↓updS, ↓app0, ↓appN]); rfl
   have TV1G2 : TabV t Sl1 Ss1 W1 G2 (e0 + 1 + 1) e1 := F1.tv.at (by omega) (fun a ha => by have q := tabIds_V F1.tv ha; rw [hG2]; (simp (disch := (first | omega | assumption | (refine mt (F0.id _) ?_; omega) | (refine mt (F1.id _) ?_; omega) | (refine mt (F2.id _) ?_; omega) | (refine mt (F3.id _) ?_; omega) | (refine mt (F7.id _) ?_; omega) | (refine mt (F8.id _) ?_; omega) | fail)) only [↓appC, ↓updN, ↓updS, ↓app0, ↓appN]); exact app_mem _ _ _ _ (F1.own a ha))
   refine wDraw [0, 0, 0, 4, 15, 31, 63, 63, 63, 0, 0, 1663, 3839, 8191] rfl (by decide +kernel) ?_
   (apply dlr (vs := [.int _ _, .int _ _, _, _]) rfl rfl; exact Q4; exact Q13; rfl; (exact Nat.le_of_ble_eq_true rfl); rfl; rfl; rfl; rfl)
   refine dmI rfl rfl rfl rfl rfl ?_
   (apply dlr (vs := [.int _ _, .int _ _, .int _ _, .int _ _, .str _]) rfl rfl; exact Q4; exact Q13; rfl; (exact Nat.le_of_ble_eq_true rfl); rfl; rfl; rfl; rfl)
   refine dcl (s38 r) rfl rfl rfl rfl rfl rfl ?_
   (apply dfs (e1 :: tabIds Sl1 Ss1 W1 t.lk.length) O2 rfl rfl rfl; exact (SnapL.cons _ _ _ _ (snapTabT TV1G2 z1 (fun a ha => List.mem_cons_of_mem _ ha)) (SnapL.cons _ _ _ _ (.one _ _ (.int _ _)) (SnapL.cons _ _ _ _ (SnapC.agg (.cons _ _ _ _ (.int _ _) (.cons _ _ _ _ (.int _ _) (.cons _ _ _ _ (.int _ _) (.cons _ _ _ _ (.int _ _) (.cons _ _ _ _ (.str _) .nil)))))) SnapL.nil))); exact tupFlat (cellFlat F2.tv.kl) (cellFlat F2.tv.ks); exact F2.fl; exact F2.ne; rfl; rfl; rfl)
   refine dmT rfl rfl rfl rfl rfl (dex rfl rfl rfl rfl rfl rfl (dex rfl rfl rfl rfl rfl rfl (dex rfl rfl rfl rfl rfl rfl (dal rfl rfl rfl rfl rfl rfl (dal rfl rfl rfl rfl rfl rfl ?_)))))
   (apply dst (u := .agg [.int _ _, .int _ _, _, _]) rfl rfl rfl; exact Q4; exact Q13; rfl; rfl; rfl; exact Q20; (exact Nat.le_of_ble_eq_true rfl); rfl; rfl; rfl)
   (apply dst (u := .agg [.int _ _, .int _ _, .int _ _, .int _ _]) rfl rfl rfl; exact Q4; exact Q13; rfl; rfl; rfl; exact Q20; (exact Nat.le_of_ble_eq_true rfl); rfl; rfl; rfl)
   refine daI rfl rfl rfl rfl rfl (dNilR 14 [0, 3, 3, 3, 3, 0, 0, 0, 0, 3, 0, 1, 0, 1] [(0, 9), (2, 9), (4, 9), (0, 10), (2, 10), (4, 10), (9, 10)] rfl (by repeat' (first | exact rfl | apply clsC rfl | apply clsC (clsW F2.ne))) (by decide +kernel) ?_ ?_)
   ·(repeat' (first | exact True.intro | (intro hq; cases hq; done) | exact R0 | apply And.intro))
   refine qSeq (wSeq (wSeq ?_))
   refine wpG fun G3 hG3 => ?_
   have b0G3 : G3 (0) = some ⟨[[.int .i64 t.tm, .int .i64 t.nx, .sl false n1 (t.lk.map (Lk.T false)), .sl false n2 (t.sn.map Sn.T)]], 4, 25⟩ := by rw [hG3]; (simp (disch := (first | omega | assumption | (refine mt (F0.id _) ?_; omega) | (refine mt (F1.id _) ?_; omega) | (refine mt (F2.id _) ?_; omega) | (refine mt (F3.id _) ?_; omega) | (refine mt (F7.id _) ?_; omega) | (refine mt (F8.id _) ?_; omega) | fail)) only [↓appC, ↓updN, ↓updS, ↓app0, ↓appN]); exact b0G2
   have b1G3 : G3 (0 + 1) = some ⟨[[.int .i64 r.cl, .int .i64 r.st, .int .i64 r.kd, .int .i64 r.le, .str r.nm]], 5, 74⟩ := by rw [hG3]; (simp (disch := (first | omega | assumption | (refine mt (F0.id _) ?_; omega) | (refine mt (F1.id _) ?_; omega) | (refine mt (F2.id _) ?_; omega) | (refine mt (F3.id _) ?_; omega) | (refine mt (F7.id _) ?_; omega) | (refine mt (F8.id _) ?_; omega) | fail)) only [↓appC, ↓updN, ↓updS, ↓app0, ↓appN]); exact b1G2
   have k8G3 : G3 (e0) = some ⟨[[.int .i64 X.tm, .int .i64 X.nx, .sl true false (X.lk.map (Lk.T true)), .sl true false (X.sn.map Sn.T)]], 4, 35⟩ := by rw [hG3]; (simp (disch := (first | omega | assumption | (refine mt (F0.id _) ?_; omega) | (refine mt (F1.id _) ?_; omega) | (refine mt (F2.id _) ?_; omega) | (refine mt (F3.id _) ?_; omega) | (refine mt (F7.id _) ?_; omega) | (refine mt (F8.id _) ?_; omega) | fail)) only [↓appC, ↓updN, ↓updS, ↓app0, ↓appN]); exact k8G2
   have k9G3 : G3 (e0 + 1) = some ⟨[[.int .i64 an.kd, .int .i64 an.tk, .int .i64 an.hd, .int .i64 an.ex]], 4, 60⟩ := by rw [hG3]; (simp (disch := (first | omega | assumption | (refine mt (F0.id _) ?_; omega) | (refine mt (F1.id _) ?_; omega) | (refine mt (F2.id _) ?_; omega) | (refine mt (F3.id _) ?_; omega) | (refine mt (F7.id _) ?_; omega) | (refine mt (F8.id _) ?_; omega) | fail)) only [↓appC, ↓updN, ↓updS, ↓app0, ↓appN]); exact k9G2
   have k11G3 : G3 (e1) = some ⟨[[.int .i64 t.tm, .int .i64 t.nx, Sl1, Ss1]], 4, 35⟩ := by rw [hG3]; (simp (disch := (first | omega | assumption | (refine mt (F0.id _) ?_; omega) | (refine mt (F1.id _) ?_; omega) | (refine mt (F2.id _) ?_; omega) | (refine mt (F3.id _) ?_; omega) | (refine mt (F7.id _) ?_; omega) | (refine mt (F8.id _) ?_; omega) | fail)) only [↓appC, ↓updN, ↓updS, ↓app0, ↓appN]); exact k11G2
   have k12G3 : G3 (e2) = some ⟨[[.int .i64 X.tm, .int .i64 X.nx, Sl2, Ss2]], 4, 35⟩ := by rw [hG3]; (simp (disch := (first | omega | assumption | (refine mt (F0.id _) ?_; omega) | (refine mt (F1.id _) ?_; omega) | (refine mt (F2.id _) ?_; omega) | (refine mt (F3.id _) ?_; omega) | (refine mt (F7.id _) ?_; omega) | (refine mt (F8.id _) ?_; omega) | fail)) only [↓appC, ↓updN, ↓updS, ↓app0, ↓appN]); rfl
   have k13G3 : G3 (e2 + 1) = some ⟨[[.int .i64 an.kd, .int .i64 an.tk, .int .i64 an.hd, .int .i64 an.ex]], 4, 60⟩ := by rw [hG3]; (simp (disch := (first | omega | assumption | (refine mt (F0.id _) ?_; omega) | (refine mt (F1.id _) ?_; omega) | (refine mt (F2.id _) ?_; omega) | (refine mt (F3.id _) ?_; omega) | (refine mt (F7.id _) ?_; omega) | (refine mt (F8.id _) ?_; omega) | fail)) only [↓appC, ↓updN, ↓updS, ↓app0, ↓appN]); rfl
   have TV1G3 : TabV t Sl1 Ss1 W1 G3 (e0 + 1 + 1) e1 := TV1G2.keep (Nat.le_refl _) (fun a h1 h2 => by rw [hG3]; (simp (disch := (first | omega | assumption | (refine mt (F0.id _) ?_; omega) | (refine mt (F1.id _) ?_; omega) | (refine mt (F2.id _) ?_; omega) | (refine mt (F3.id _) ?_; omega) | (refine mt (F7.id _) ?_; omega) | (refine mt (F8.id _) ?_; omega) | fail)) only [↓appC, ↓updN, ↓updS, ↓app0, ↓appN]))
   have TV2G3 : TabV X Sl2 Ss2 W2 G3 (e1 + 1) e2 := F2.tv.at (by omega) (fun a ha => by have q := tabIds_V F2.tv ha; rw [hG3]; (simp (disch := (first | omega | assumption | (refine mt (F0.id _) ?_; omega) | (refine mt (F1.id _) ?_; omega) | (refine mt (F2.id _) ?_; omega) | (refine mt (F3.id _) ?_; omega) | (refine mt (F7.id _) ?_; omega) | (refine mt (F8.id _) ?_; omega) | fail)) only [↓appC, ↓updN, ↓updS, ↓app0, ↓appN]); exact app_mem _ _ _ _ (F2.own a ha))
   refine wRegion ?_
   (apply rlr (vs := [.int _ _, .int _ _, _, _]) rfl rfl; exact Q4; exact Q13; rfl; (exact Nat.le_of_ble_eq_true rfl); rfl; rfl; rfl; rfl)
   (apply rlr (vs := [.int _ _, .int _ _, _, _]) rfl rfl; exact Q4; exact Q13; rfl; (exact Nat.le_of_ble_eq_true rfl); rfl; rfl; rfl; rfl)
   apply rclS (e2 :: tabIds Sl2 Ss2 W2 X.lk.length) (s14 X false false false true false false hX1 hX2 hX3) rfl rfl rfl
   ·exact (SnapL.cons _ _ _ _ (snapTabF TV2G3 (fun a ha => List.mem_cons_of_mem _ ha)) (SnapL.cons _ _ _ _ (SnapC.agg (.cons _ _ _ _ (.int _ _) (.cons _ _ _ _ (.int _ _) (.cons _ _ _ _ (.sl _ _ _ (fun h => by cases h)) (.cons _ _ _ _ (.sl _ _ _ (fun h => by cases h)) .nil))))) SnapL.nil))
   ·rfl
   ·rfl
   ·rfl
   refine rnot (c := true) rfl rfl rfl rfl rfl (rmB rfl rfl rfl rfl rfl ?_)
   (apply rlr (vs := [.int _ _, .int _ _, .int _ _, .int _ _]) rfl rfl; exact Q4; exact Q13; rfl; (exact Nat.le_of_ble_eq_true rfl); rfl; rfl; rfl; rfl)
   (apply rlr (vs := [.int _ _, .int _ _, .int _ _, .int _ _]) rfl rfl; exact Q4; exact Q13; rfl; (exact Nat.le_of_ble_eq_true rfl); rfl; rfl; rfl; rfl)
   refine rcl (s39 an) rfl rfl rfl rfl rfl rfl (rnot (c := true) rfl rfl rfl rfl rfl (rpk (e := false) rfl rfl rfl rfl rfl rfl (rmB rfl rfl rfl rfl rfl (rmI rfl rfl rfl rfl rfl (rmI rfl rfl rfl rfl rfl ?_)))))
   refine rne rfl rfl rfl rfl rfl rfl (fun h => absurd h ((fun hh => hh rfl))) ?_
   intro h11_13
   refine rpk (e := false) rfl rfl rfl rfl rfl rfl (rNil (qSeq (wF rfl (wSkip (qSeq (wSeq (wSeq (wDraw [0, 0, 2, 7, 15] rfl (by decide +kernel) ?_))))))))
   (apply dlr (vs := [.int _ _, .int _ _, _, _]) rfl rfl; exact Q4; exact Q13; rfl; (exact Nat.le_of_ble_eq_true rfl); rfl; rfl; rfl; rfl)
   (apply dlr (vs := [.int _ _, .int _ _, _, _]) rfl rfl; exact Q4; exact Q13; rfl; (exact Nat.le_of_ble_eq_true rfl); rfl; rfl; rfl; rfl)
   (apply dfs [] O3 rfl rfl rfl; exact (SnapL.cons _ _ _ _ (SnapC.agg (.cons _ _ _ _ (.int _ _) (.cons _ _ _ _ (.int _ _) (.cons _ _ _ _ (.sl _ _ _ (fun h => by cases h)) (.cons _ _ _ _ (.sl _ _ _ (fun h => by cases h)) .nil))))) SnapL.nil); exact aggFlat (cellFlat F3.tv.kl) (cellFlat F3.tv.ks); exact F3.fl; exact F3.ne; rfl; rfl; rfl)
   apply dclS (e1 :: (tabIds Sl1 Ss1 W1 t.lk.length ++ tabIds Sl3 Ss3 W3 t.lk.length)) (s14 t false false false false false false (by omega) (fun i hi => by have := hW i hi; omega) (by omega)) rfl rfl rfl
   ·exact (SnapL.cons _ _ _ _ (snapTabF (TV1G3.keep (Nat.le_refl _) (fun a h1 h2 => by (simp (disch := (first | omega | assumption | (refine mt (F0.id _) ?_; omega) | (refine mt (F1.id _) ?_; omega) | (refine mt (F2.id _) ?_; omega) | (refine mt (F3.id _) ?_; omega) | (refine mt (F7.id _) ?_; omega) | (refine mt (F8.id _) ?_; omega) | fail)) only [↓appC, ↓updN, ↓updS, ↓app0, ↓appN]))) (fun a ha => List.mem_cons_of_mem _ (List.mem_append_left _ ha))) (SnapL.cons _ _ _ _ (snapTabF (F3.tv.at (Nat.le_refl _) (fun a ha => app_mem _ _ _ _ (F3.own a ha))) (fun a ha => List.mem_cons_of_mem _ (List.mem_append_right _ ha))) SnapL.nil))
   ·rfl
   ·rfl
   ·rfl
   refine dnot (c := true) rfl rfl rfl rfl rfl (dNilR 5 [0, 1, 3, 1, 1] [(0, 2)] rfl (by repeat' (first | exact rfl | apply clsC rfl | apply clsC (clsW F3.ne))) (by decide +kernel) ?_ ?_)
   ·(repeat' (first | exact True.intro | (intro hq; cases hq; done) | exact R0 | apply And.intro))
   refine qSeq (wF rfl (wSkip (qSeq (wSeq (wRegion (raI rfl rfl rfl rfl rfl (rNil (qSeq (wSeq ?_)))))))))
   refine wpG fun G4 hG4 => ?_
   have b0G4 : G4 (0) = some ⟨[[.int .i64 t.tm, .int .i64 t.nx, .sl false n1 (t.lk.map (Lk.T false)), .sl false n2 (t.sn.map Sn.T)]], 4, 25⟩ := by rw [hG4]; (simp (disch := (first | omega | assumption | (refine mt (F0.id _) ?_; omega) | (refine mt (F1.id _) ?_; omega) | (refine mt (F2.id _) ?_; omega) | (refine mt (F3.id _) ?_; omega) | (refine mt (F7.id _) ?_; omega) | (refine mt (F8.id _) ?_; omega) | fail)) only [↓appC, ↓updN, ↓updS, ↓app0, ↓appN]); exact b0G3
   have b1G4 : G4 (0 + 1) = some ⟨[[.int .i64 r.cl, .int .i64 r.st, .int .i64 r.kd, .int .i64 r.le, .str r.nm]], 5, 74⟩ := by rw [hG4]; (simp (disch := (first | omega | assumption | (refine mt (F0.id _) ?_; omega) | (refine mt (F1.id _) ?_; omega) | (refine mt (F2.id _) ?_; omega) | (refine mt (F3.id _) ?_; omega) | (refine mt (F7.id _) ?_; omega) | (refine mt (F8.id _) ?_; omega) | fail)) only [↓appC, ↓updN, ↓updS, ↓app0, ↓appN]); exact b1G3
   have k8G4 : G4 (e0) = some ⟨[[.int .i64 X.tm, .int .i64 X.nx, .sl true false (X.lk.map (Lk.T true)), .sl true false (X.sn.map Sn.T)]], 4, 35⟩ := by rw [hG4]; (simp (disch := (first | omega | assumption | (refine mt (F0.id _) ?_; omega) | (refine mt (F1.id _) ?_; omega) | (refine mt (F2.id _) ?_; omega) | (refine mt (F3.id _) ?_; omega) | (refine mt (F7.id _) ?_; omega) | (refine mt (F8.id _) ?_; omega) | fail)) only [↓appC, ↓updN, ↓updS, ↓app0, ↓appN]); exact k8G3
   have k9G4 : G4 (e0 + 1) = some ⟨[[.int .i64 an.kd, .int .i64 an.tk, .int .i64 an.hd, .int .i64 an.ex]], 4, 60⟩ := by rw [hG4]; (simp (disch := (first | omega | assumption | (refine mt (F0.id _) ?_; omega) | (refine mt (F1.id _) ?_; omega) | (refine mt (F2.id _) ?_; omega) | (refine mt (F3.id _) ?_; omega) | (refine mt (F7.id _) ?_; omega) | (refine mt (F8.id _) ?_; omega) | fail)) only [↓appC, ↓updN, ↓updS, ↓app0, ↓appN]); exact k9G3
   have k11G4 : G4 (e1) = some ⟨[[.int .i64 t.tm, .int .i64 t.nx, Sl1, Ss1]], 4, 35⟩ := by rw [hG4]; (simp (disch := (first | omega | assumption | (refine mt (F0.id _) ?_; omega) | (refine mt (F1.id _) ?_; omega) | (refine mt (F2.id _) ?_; omega) | (refine mt (F3.id _) ?_; omega) | (refine mt (F7.id _) ?_; omega) | (refine mt (F8.id _) ?_; omega) | fail)) only [↓appC, ↓updN, ↓updS, ↓app0, ↓appN]); exact k11G3
   have k12G4 : G4 (e2) = some ⟨[[.int .i64 X.tm, .int .i64 X.nx, Sl2, Ss2]], 4, 35⟩ := by rw [hG4]; (simp (disch := (first | omega | assumption | (refine mt (F0.id _) ?_; omega) | (refine mt (F1.id _) ?_; omega) | (refine mt (F2.id _) ?_; omega) | (refine mt (F3.id _) ?_; omega) | (refine mt (F7.id _) ?_; omega) | (refine mt (F8.id _) ?_; omega) | fail)) only [↓appC, ↓updN, ↓updS, ↓app0, ↓appN]); exact k12G3
   have k13G4 : G4 (e2 + 1) = some ⟨[[.int .i64 an.kd, .int .i64 an.tk, .int .i64 an.hd, .int .i64 an.ex]], 4, 60⟩ := by rw [hG4]; (simp (disch := (first | omega | assumption | (refine mt (F0.id _) ?_; omega) | (refine mt (F1.id _) ?_; omega) | (refine mt (F2.id _) ?_; omega) | (refine mt (F3.id _) ?_; omega) | (refine mt (F7.id _) ?_; omega) | (refine mt (F8.id _) ?_; omega) | fail)) only [↓appC, ↓updN, ↓updS, ↓app0, ↓appN]); exact k13G3
   have TV1G4 : TabV t Sl1 Ss1 W1 G4 (e0 + 1 + 1) e1 := TV1G3.keep (Nat.le_refl _) (fun a h1 h2 => by rw [hG4]; (simp (disch := (first | omega | assumption | (refine mt (F0.id _) ?_; omega) | (refine mt (F1.id _) ?_; omega) | (refine mt (F2.id _) ?_; omega) | (refine mt (F3.id _) ?_; omega) | (refine mt (F7.id _) ?_; omega) | (refine mt (F8.id _) ?_; omega) | fail)) only [↓appC, ↓updN, ↓updS, ↓app0, ↓appN]))
   have TV2G4 : TabV X Sl2 Ss2 W2 G4 (e1 + 1) e2 := TV2G3.keep (Nat.le_refl _) (fun a h1 h2 => by rw [hG4]; (simp (disch := (first | omega | assumption | (refine mt (F0.id _) ?_; omega) | (refine mt (F1.id _) ?_; omega) | (refine mt (F2.id _) ?_; omega) | (refine mt (F3.id _) ?_; omega) | (refine mt (F7.id _) ?_; omega) | (refine mt (F8.id _) ?_; omega) | fail)) only [↓appC, ↓updN, ↓updS, ↓app0, ↓appN]))
   refine wRegion ?_
   (apply rlr (vs := [.int _ _, .int _ _, _, _]) rfl rfl; exact Q4; exact Q13; rfl; (exact Nat.le_of_ble_eq_true rfl); rfl; rfl; rfl; rfl)
   refine rmI rfl rfl rfl rfl rfl ?_
   refine ropM (o15w t 1 (by omega) (by omega) (fun i hi => by have := hW i hi; omega) (by omega) (TV1G4.keep (by omega) (fun _ _ _ => rfl))) rfl rfl rfl rfl rfl rfl ?_
   rintro _ g5 m5 ⟨rfl, TV1m, fr5, le5⟩ hc5 hl5
   have b0g5 : g5 (0) = some ⟨[[.int .i64 t.tm, .int .i64 t.nx, .sl false n1 (t.lk.map (Lk.T false)), .sl false n2 (t.sn.map Sn.T)]], 4, 25⟩ := by rw [fr5 _ (by omega) (fun o => by have := TV1G4.ownM _ o; omega)]; exact b0G4
   have b1g5 : g5 (0 + 1) = some ⟨[[.int .i64 r.cl, .int .i64 r.st, .int .i64 r.kd, .int .i64 r.le, .str r.nm]], 5, 74⟩ := by rw [fr5 _ (by omega) (fun o => by have := TV1G4.ownM _ o; omega)]; exact b1G4
   have k8g5 : g5 (e0) = some ⟨[[.int .i64 X.tm, .int .i64 X.nx, .sl true false (X.lk.map (Lk.T true)), .sl true false (X.sn.map Sn.T)]], 4, 35⟩ := by rw [fr5 _ (by omega) (fun o => by have := TV1G4.ownM _ o; omega)]; exact k8G4
   have k9g5 : g5 (e0 + 1) = some ⟨[[.int .i64 an.kd, .int .i64 an.tk, .int .i64 an.hd, .int .i64 an.ex]], 4, 60⟩ := by rw [fr5 _ (by omega) (fun o => by have := TV1G4.ownM _ o; omega)]; exact k9G4
   have k12g5 : g5 (e2) = some ⟨[[.int .i64 X.tm, .int .i64 X.nx, Sl2, Ss2]], 4, 35⟩ := by rw [fr5 _ (by omega) (fun o => by have := TV1G4.ownM _ o; omega)]; exact k12G4
   have k13g5 : g5 (e2 + 1) = some ⟨[[.int .i64 an.kd, .int .i64 an.tk, .int .i64 an.hd, .int .i64 an.ex]], 4, 60⟩ := by rw [fr5 _ (by omega) (fun o => by have := TV1G4.ownM _ o; omega)]; exact k13G4
   have TV2g5 : TabV X Sl2 Ss2 W2 g5 (e1 + 1) e2 := TV2G4.keep (Nat.le_refl _) (fun a h1 h2 => fr5 a (by omega) (fun o => by have := TV1G4.ownM _ o; omega))
   refine raI rfl rfl rfl rfl rfl (rNil (qSeq (wSeq (wSeq (wRegion (rmI rfl rfl rfl rfl rfl ?_))))))
   refine rlt rfl rfl rfl rfl rfl rfl (fun h => absurd h (by have := kL_bd (k := 1) (L := t.lk) (fun i hi => by have := hW i hi; omega); omega)) ?_
   intro h17_1
   refine rmB rfl rfl rfl rfl rfl ?_
   (apply rlr (vs := [.int _ _, .int _ _, _, _]) rfl rfl; exact Q4; exact Q13; rfl; (exact Nat.le_of_ble_eq_true rfl); rfl; rfl; rfl; rfl)
   (apply rlr (vs := [.int _ _, .int _ _, _, _]) rfl rfl; exact Q4; exact Q13; rfl; (exact Nat.le_of_ble_eq_true rfl); rfl; rfl; rfl; rfl)
   apply rclS (e2 :: tabIds Sl2 Ss2 W2 X.lk.length) (s14 X false false false true false false hX1 hX2 hX3) rfl rfl rfl
   ·exact (SnapL.cons _ _ _ _ (snapTabF TV2g5 (fun a ha => List.mem_cons_of_mem _ ha)) (SnapL.cons _ _ _ _ (SnapC.agg (.cons _ _ _ _ (.int _ _) (.cons _ _ _ _ (.int _ _) (.cons _ _ _ _ (.sl _ _ _ (fun h => by cases h)) (.cons _ _ _ _ (.sl _ _ _ (fun h => by cases h)) .nil))))) SnapL.nil))
   ·rfl
   ·rfl
   ·rfl
   refine rnot (c := true) rfl rfl rfl rfl rfl (rpk (e := false) rfl rfl rfl rfl rfl rfl (rmB rfl rfl rfl rfl rfl ?_))
   (apply rlr (vs := [.int _ _, .int _ _, .int _ _, .int _ _]) rfl rfl; exact Q4; exact Q13; rfl; (exact Nat.le_of_ble_eq_true rfl); rfl; rfl; rfl; rfl)
   (apply rlr (vs := [.int _ _, .int _ _, .int _ _, .int _ _]) rfl rfl; exact Q4; exact Q13; rfl; (exact Nat.le_of_ble_eq_true rfl); rfl; rfl; rfl; rfl)
   refine rcl (s39 an) rfl rfl rfl rfl rfl rfl (rnot (c := true) rfl rfl rfl rfl rfl (rpk (e := false) rfl rfl rfl rfl rfl rfl (rmB rfl rfl rfl rfl rfl (rmI rfl rfl rfl rfl rfl (rmI rfl rfl rfl rfl rfl ?_)))))
   refine rne rfl rfl rfl rfl rfl rfl (fun h => absurd h ((fun hh => hh rfl))) ?_
   intro h17_17
   refine rpk (e := false) rfl rfl rfl rfl rfl rfl (rNil (qSeq (wF rfl (wSkip (qSeq (wSeq (wRegion (raI rfl rfl rfl rfl rfl (rNil (qSeq (wSeq (wRegion ?_))))))))))))
   (apply rlr (vs := [.int _ _, .int _ _, _, _]) rfl rfl; exact Q4; exact Q13; rfl; (exact Nat.le_of_ble_eq_true rfl); rfl; rfl; rfl; rfl)
   refine rmI rfl rfl rfl rfl rfl ?_
   refine ropM (o15w X 1 (by omega) hX1 hX2 hX3 (TV2g5.keep (by omega) (fun _ _ _ => rfl))) rfl rfl rfl rfl rfl rfl ?_
   rintro _ g6 m6 ⟨rfl, TV2m, fr6, le6⟩ hc6 hl6
   have b0g6 : g6 (0) = some ⟨[[.int .i64 t.tm, .int .i64 t.nx, .sl false n1 (t.lk.map (Lk.T false)), .sl false n2 (t.sn.map Sn.T)]], 4, 25⟩ := by rw [fr6 _ (by omega) (fun o => by have := TV2g5.ownM _ o; omega)]; exact b0g5
   have b1g6 : g6 (0 + 1) = some ⟨[[.int .i64 r.cl, .int .i64 r.st, .int .i64 r.kd, .int .i64 r.le, .str r.nm]], 5, 74⟩ := by rw [fr6 _ (by omega) (fun o => by have := TV2g5.ownM _ o; omega)]; exact b1g5
   have k8g6 : g6 (e0) = some ⟨[[.int .i64 X.tm, .int .i64 X.nx, .sl true false (X.lk.map (Lk.T true)), .sl true false (X.sn.map Sn.T)]], 4, 35⟩ := by rw [fr6 _ (by omega) (fun o => by have := TV2g5.ownM _ o; omega)]; exact k8g5
   have k9g6 : g6 (e0 + 1) = some ⟨[[.int .i64 an.kd, .int .i64 an.tk, .int .i64 an.hd, .int .i64 an.ex]], 4, 60⟩ := by rw [fr6 _ (by omega) (fun o => by have := TV2g5.ownM _ o; omega)]; exact k9g5
   have k12g6 : g6 (e2) = some ⟨[[.int .i64 X.tm, .int .i64 X.nx, Sl2, Ss2]], 4, 35⟩ := by rw [fr6 _ (by omega) (fun o => by have := TV2g5.ownM _ o; omega)]; exact k12g5
   obtain ⟨Sl7, Ss7, W7, wr7, e7, F7, z7, O7⟩ := o11x t n1 n2 hL hW hS m6
   have le7 := O7.le
   obtain ⟨Sl8, Ss8, W8, wr8, e8, F8, _, O8⟩ := hO2 e7
   have le8 := O8.le
   refine raI rfl rfl rfl rfl rfl (rNil (qSeq (wSeq (wRegion (raI rfl rfl rfl rfl rfl (rNil (qSeq (wSeq (wRegion ?_)))))))))
   (apply rlr (vs := [.int _ _, .int _ _, _, _]) rfl rfl; exact Q4; exact Q13; rfl; (exact Nat.le_of_ble_eq_true rfl); rfl; rfl; rfl; rfl)
   refine rmI rfl rfl rfl rfl rfl ?_
   apply rclS (e2 :: tabIds Sl2 Ss2 W2 X.lk.length) (s20 X.tm X.nx false false false X.lk X.sn.length 1 (by omega) hX1 hX2 hX3) rfl rfl rfl
   ·exact (SnapL.cons _ _ _ _ (snapTabF (t := ⟨X.tm, X.nx, ML 1 X.lk, MS (kL 1 X.lk) X.sn.length⟩) TV2m (fun a ha => List.mem_cons_of_mem _ (hML a ha))) (SnapL.cons _ _ _ _ (.one _ _ (.int _ _)) SnapL.nil))
   ·rfl
   ·rfl
   ·rfl
   refine raI rfl rfl rfl rfl rfl (rNil (qSeq (wSeq (wSeq (wRegion (rmI rfl rfl rfl rfl rfl ?_))))))
   refine rlt rfl rfl rfl rfl rfl rfl (fun h => absurd h (by have := kL_bd (k := 1) (L := X.lk) hX2; omega)) ?_
   intro h23_1
   refine rNil (qSeq (wF rfl (wSkip (qSeq (wSeq (wSeq (wRegion (rmI rfl rfl rfl rfl rfl (rmI rfl rfl rfl rfl rfl ?_)))))))))
   refine rne rfl rfl rfl rfl rfl rfl (fun h => absurd h ((fun hh => hh (by first | rfl | (simp; done) | (simp; omega) | omega)))) ?_
   intro h25_2
   refine rNil (qSeq (wF rfl (wSkip (qSeq (wSeq (wDraw [0, 1, 0, 0, 11, 31, 63, 127, 127, 127, 0, 0, 3327, 7679, 16383] rfl (by decide +kernel) ?_))))))
   (apply dlr (vs := [.int _ _, .int _ _, _, _]) rfl rfl; exact Q4; exact Q13; rfl; (exact Nat.le_of_ble_eq_true rfl); rfl; rfl; rfl; rfl)
   (apply dfs [] O7 rfl rfl rfl; exact (SnapL.cons _ _ _ _ (SnapC.agg (.cons _ _ _ _ (.int _ _) (.cons _ _ _ _ (.int _ _) (.cons _ _ _ _ (.sl _ _ _ (fun h => by cases h)) (.cons _ _ _ _ (.sl _ _ _ (fun h => by cases h)) .nil))))) SnapL.nil); exact aggFlat (cellFlat F7.tv.kl) (cellFlat F7.tv.ks); exact F7.fl; exact F7.ne; rfl; rfl; rfl)
   refine dmI rfl rfl rfl rfl rfl ?_
   (apply dlr (vs := [.int _ _, .int _ _, .int _ _, .int _ _, .str _]) rfl rfl; exact Q4; exact Q13; rfl; (exact Nat.le_of_ble_eq_true rfl); rfl; rfl; rfl; rfl)
   refine dcl (s38 r) rfl rfl rfl rfl rfl rfl ?_
   (apply dfs (0 :: tabIds Sl7 Ss7 W7 t.lk.length) O8 rfl rfl rfl; exact (SnapL.cons _ _ _ _ (snapTabT (F7.tv.at (Nat.le_refl _) (fun a ha => app_mem _ _ _ _ (F7.own a ha))) z7 (fun a ha => List.mem_cons_of_mem _ ha)) (SnapL.cons _ _ _ _ (.one _ _ (.int _ _)) (SnapL.cons _ _ _ _ (SnapC.agg (.cons _ _ _ _ (.int _ _) (.cons _ _ _ _ (.int _ _) (.cons _ _ _ _ (.int _ _) (.cons _ _ _ _ (.int _ _) (.cons _ _ _ _ (.str _) .nil)))))) SnapL.nil))); exact tupFlat (cellFlat F8.tv.kl) (cellFlat F8.tv.ks); exact F8.fl; exact F8.ne; rfl; rfl; rfl)
   refine dmT rfl rfl rfl rfl rfl (dex rfl rfl rfl rfl rfl rfl (dex rfl rfl rfl rfl rfl rfl (dex rfl rfl rfl rfl rfl rfl (dal rfl rfl rfl rfl rfl rfl (dal rfl rfl rfl rfl rfl rfl ?_)))))
   (apply dst (u := .agg [.int _ _, .int _ _, _, _]) rfl rfl rfl; exact Q4; exact Q13; rfl; rfl; rfl; exact Q20; (exact Nat.le_of_ble_eq_true rfl); rfl; rfl; rfl)
   (apply dst (u := .agg [.int _ _, .int _ _, .int _ _, .int _ _]) rfl rfl rfl; exact Q4; exact Q13; rfl; rfl; rfl; exact Q20; (exact Nat.le_of_ble_eq_true rfl); rfl; rfl; rfl)
   refine daI rfl rfl rfl rfl rfl (dNilR 15 [0, 3, 3, 3, 3, 0, 0, 0, 0, 3, 0, 1, 0, 3, 1] [(1, 3), (0, 10), (1, 10), (3, 10), (5, 10), (0, 11), (1, 11), (3, 11), (5, 11), (10, 11)] rfl (by repeat' (first | exact rfl | apply clsC rfl | apply clsC (clsW F7.ne) | apply clsC (clsW F8.ne))) (by decide +kernel) ?_ ?_)
   ·(repeat' (first | exact True.intro | (intro hq; cases hq; done) | exact R0 | apply And.intro))
   refine qSeq (wSeq (wSeq ?_))
   refine wpG fun G9 hG9 => ?_
   have k8G9 : G9 (e0) = some ⟨[[.int .i64 X.tm, .int .i64 X.nx, .sl true false (X.lk.map (Lk.T true)), .sl true false (X.sn.map Sn.T)]], 4, 35⟩ := by rw [hG9]; (simp (disch := (first | omega | assumption | (refine mt (F0.id _) ?_; omega) | (refine mt (F1.id _) ?_; omega) | (refine mt (F2.id _) ?_; omega) | (refine mt (F3.id _) ?_; omega) | (refine mt (F7.id _) ?_; omega) | (refine mt (F8.id _) ?_; omega) | fail)) only [↓appC, ↓updN, ↓updS, ↓app0, ↓appN]); exact k8g6
   have k9G9 : G9 (e0 + 1) = some ⟨[[.int .i64 an.kd, .int .i64 an.tk, .int .i64 an.hd, .int .i64 an.ex]], 4, 60⟩ := by rw [hG9]; (simp (disch := (first | omega | assumption | (refine mt (F0.id _) ?_; omega) | (refine mt (F1.id _) ?_; omega) | (refine mt (F2.id _) ?_; omega) | (refine mt (F3.id _) ?_; omega) | (refine mt (F7.id _) ?_; omega) | (refine mt (F8.id _) ?_; omega) | fail)) only [↓appC, ↓updN, ↓updS, ↓app0, ↓appN]); exact k9g6
   have k12G9 : G9 (e2) = some ⟨[[.int .i64 X.tm, .int .i64 X.nx, Sl2, Ss2]], 4, 35⟩ := by rw [hG9]; (simp (disch := (first | omega | assumption | (refine mt (F0.id _) ?_; omega) | (refine mt (F1.id _) ?_; omega) | (refine mt (F2.id _) ?_; omega) | (refine mt (F3.id _) ?_; omega) | (refine mt (F7.id _) ?_; omega) | (refine mt (F8.id _) ?_; omega) | fail)) only [↓appC, ↓updN, ↓updS, ↓app0, ↓appN]); exact k12g6
   have k18G9 : G9 (e8) = some ⟨[[.int .i64 X.tm, .int .i64 X.nx, Sl8, Ss8]], 4, 35⟩ := by rw [hG9]; (simp (disch := (first | omega | assumption | (refine mt (F0.id _) ?_; omega) | (refine mt (F1.id _) ?_; omega) | (refine mt (F2.id _) ?_; omega) | (refine mt (F3.id _) ?_; omega) | (refine mt (F7.id _) ?_; omega) | (refine mt (F8.id _) ?_; omega) | fail)) only [↓appC, ↓updN, ↓updS, ↓app0, ↓appN]); rfl
   have k19G9 : G9 (e8 + 1) = some ⟨[[.int .i64 an.kd, .int .i64 an.tk, .int .i64 an.hd, .int .i64 an.ex]], 4, 60⟩ := by rw [hG9]; (simp (disch := (first | omega | assumption | (refine mt (F0.id _) ?_; omega) | (refine mt (F1.id _) ?_; omega) | (refine mt (F2.id _) ?_; omega) | (refine mt (F3.id _) ?_; omega) | (refine mt (F7.id _) ?_; omega) | (refine mt (F8.id _) ?_; omega) | fail)) only [↓appC, ↓updN, ↓updS, ↓app0, ↓appN]); rfl
   have TV8G9 : TabV X Sl8 Ss8 W8 G9 (e7) e8 := F8.tv.at (by omega) (fun a ha => by have q := tabIds_V F8.tv ha; rw [hG9]; (simp (disch := (first | omega | assumption | (refine mt (F0.id _) ?_; omega) | (refine mt (F1.id _) ?_; omega) | (refine mt (F2.id _) ?_; omega) | (refine mt (F3.id _) ?_; omega) | (refine mt (F7.id _) ?_; omega) | (refine mt (F8.id _) ?_; omega) | fail)) only [↓appC, ↓updN, ↓updS, ↓app0, ↓appN]); exact app_mem _ _ _ _ (F8.own a ha))
   have TV2G9 : TabV ⟨X.tm, X.nx, ML 1 X.lk, MS (kL 1 X.lk) X.sn.length⟩ Sl2 Ss2 W2 G9 (e1 + 1) m6 := TV2m.at (Nat.le_refl _) (fun a ha => by have q := tabIds_V F2.tv (hML a ha); rw [hG9]; (simp (disch := (first | omega | assumption | (refine mt (F0.id _) ?_; omega) | (refine mt (F1.id _) ?_; omega) | (refine mt (F2.id _) ?_; omega) | (refine mt (F3.id _) ?_; omega) | (refine mt (F7.id _) ?_; omega) | (refine mt (F8.id _) ?_; omega) | fail)) only [↓appC, ↓updN, ↓updS, ↓app0, ↓appN]))
   refine wRegion ?_
   (apply rlr (vs := [.int _ _, .int _ _, _, _]) rfl rfl; exact Q4; exact Q13; rfl; (exact Nat.le_of_ble_eq_true rfl); rfl; rfl; rfl; rfl)
   (apply rlr (vs := [.int _ _, .int _ _, _, _]) rfl rfl; exact Q4; exact Q13; rfl; (exact Nat.le_of_ble_eq_true rfl); rfl; rfl; rfl; rfl)
   apply rclS (e8 :: tabIds Sl8 Ss8 W8 X.lk.length) (s14 X false false false true false false hX1 hX2 hX3) rfl rfl rfl
   ·exact (SnapL.cons _ _ _ _ (snapTabF TV8G9 (fun a ha => List.mem_cons_of_mem _ ha)) (SnapL.cons _ _ _ _ (SnapC.agg (.cons _ _ _ _ (.int _ _) (.cons _ _ _ _ (.int _ _) (.cons _ _ _ _ (.sl _ _ _ (fun h => by cases h)) (.cons _ _ _ _ (.sl _ _ _ (fun h => by cases h)) .nil))))) SnapL.nil))
   ·rfl
   ·rfl
   ·rfl
   refine rnot (c := true) rfl rfl rfl rfl rfl (rmB rfl rfl rfl rfl rfl ?_)
   (apply rlr (vs := [.int _ _, .int _ _, .int _ _, .int _ _]) rfl rfl; exact Q4; exact Q13; rfl; (exact Nat.le_of_ble_eq_true rfl); rfl; rfl; rfl; rfl)
   (apply rlr (vs := [.int _ _, .int _ _, .int _ _, .int _ _]) rfl rfl; exact Q4; exact Q13; rfl; (exact Nat.le_of_ble_eq_true rfl); rfl; rfl; rfl; rfl)
   refine rcl (s39 an) rfl rfl rfl rfl rfl rfl (rnot (c := true) rfl rfl rfl rfl rfl (rpk (e := false) rfl rfl rfl rfl rfl rfl (rmB rfl rfl rfl rfl rfl (rmI rfl rfl rfl rfl rfl (rmI rfl rfl rfl rfl rfl ?_)))))
   refine rne rfl rfl rfl rfl rfl rfl (fun h => absurd h ((fun hh => hh rfl))) ?_
   intro h28_13
   refine rpk (e := false) rfl rfl rfl rfl rfl rfl (rNil (qSeq (wF rfl (wSkip (qSeq (wSeq (wRegion (raI rfl rfl rfl rfl rfl (rNil (qSeq (wSeq (wRegion ?_))))))))))))
   (apply rlr (vs := [.int _ _, .int _ _, _, _]) rfl rfl; exact Q4; exact Q13; rfl; (exact Nat.le_of_ble_eq_true rfl); rfl; rfl; rfl; rfl)
   refine rmI rfl rfl rfl rfl rfl ?_
   apply rclS (e2 :: tabIds Sl2 Ss2 W2 X.lk.length) (s20 X.tm X.nx false false false X.lk X.sn.length 1 (by omega) hX1 hX2 hX3) rfl rfl rfl
   ·exact (SnapL.cons _ _ _ _ (snapTabF (t := ⟨X.tm, X.nx, ML 1 X.lk, MS (kL 1 X.lk) X.sn.length⟩) TV2G9 (fun a ha => List.mem_cons_of_mem _ (hML a ha))) (SnapL.cons _ _ _ _ (.one _ _ (.int _ _)) SnapL.nil))
   ·rfl
   ·rfl
   ·rfl
   refine raI rfl rfl rfl rfl rfl (rNil (qSeq (wSeq (wSeq (wRegion (rmI rfl rfl rfl rfl rfl ?_))))))
   refine rlt rfl rfl rfl rfl rfl rfl (fun h => absurd h (by have := kL_bd (k := 1) (L := X.lk) hX2; omega)) ?_
   intro h32_1
   refine rNil (qSeq (wF rfl (wSkip (qSeq (wSeq (wSeq (wRegion (rmI rfl rfl rfl rfl rfl (rmI rfl rfl rfl rfl rfl ?_)))))))))
   refine rne rfl rfl rfl rfl rfl rfl (fun h => absurd h ((fun hh => hh (by first | rfl | (simp; done) | (simp; omega) | omega)))) ?_
   intro h34_2
   refine rNil (qSeq (wF rfl (wSkip (qSeq (wSeq (wRegion (raB rfl rfl rfl rfl rfl (rNil (qSeq (wRet ?_))))))))))
   exact fin rfl rfl
open Go.V
set_option linter.unusedVariables false
set_option linter.unusedSimpArgs false
set_option maxRecDepth 20000
set_option maxHeartbeats 4000000
theorem appZ0 (t : Tb) (now : Int) (r : Rq) (n1 n2 : Bool) (hb : ¬ (t.lk.length ≤ 1048576 ∧ (∀ i, i < t.lk.length → (t.lk.getD i Lk0).ws.length ≤ 1048576) ∧ t.sn.length ≤ 1048576)) (hm : t.lk.length ≤ 9223372036854775807) (hz : ∀ i, i < t.lk.length → (t.lk.getD i Lk0).nm.size ≤ 9223372036854775807 ∧ (t.lk.getD i Lk0).ws.length ≤ 9223372036854775807) (ha : t.sn.length ≤ 9223372036854775807) (hrn : r.nm.size ≤ 9223372036854775807) :
  Pure En 8 [.agg (t.T false n1 n2), .one (.int .i64 now), .agg r.T] [.one (.bool true)] := by
 refine Pure.of_wp Try.func8 rfl (Nat.le_of_ble_eq_true rfl) ?_
 refine wSeq (wRegion (rbx (u := .agg [.int _ _, .int _ _, _, _]) rfl rfl rfl rfl rfl rfl rfl (rbx (u := .agg [.int _ _, .int _ _, .int _ _, .int _ _, .str _]) rfl rfl rfl rfl rfl rfl rfl (raB rfl rfl rfl rfl rfl (rNil (qSeq (wSeq (wRegion (raI rfl rfl rfl rfl rfl (rNil (qSeq (wSeq ?_))))))))))))
 refine wRegion ?_
 (apply rlr (vs := [.int _ _, .int _ _, _, _]) rfl rfl; exact Q0; rfl; rfl; (exact Nat.le_of_ble_eq_true rfl); rfl; rfl; rfl; rfl)
 refine rmI rfl rfl rfl rfl rfl (rclX (s9 n1 n2 false t 1048576 (by omega) hm hz ha) rfl rfl rfl rfl rfl rfl ?_)
 rintro x h2_2
 try dsimp only at h2_2
 refine raI rfl rfl rfl rfl rfl (rNil (qSeq (wSeq (wSeq (wRegion (rmI rfl rfl rfl rfl rfl ?_))))))
 refine rlt rfl rfl rfl rfl rfl rfl ?_ ?_ <;> intro h3_1
 ·refine rNil (qSeq (wT rfl (wSeq (wRegion (raB rfl rfl rfl rfl rfl (rNil (qSeq (wRet (qSeqR ?_)))))))))
  exact fin rfl rfl
 ·refine rNil (qSeq (wF rfl (wSkip (qSeq (wSeq ?_)))))
  exact absurd ⟨by have := (h2_2.2 (by omega)).1; omega, fun i hi => by have := (h2_2.2 (by omega)).2.1 i hi; omega, by have := (h2_2.2 (by omega)).2.2; omega⟩ hb
theorem appAll (t : Tb) (now : Int) (r : Rq) (n1 n2 : Bool) (hm : t.lk.length ≤ 9223372036854775807) (hz : ∀ i, i < t.lk.length → (t.lk.getD i Lk0).nm.size ≤ 9223372036854775807 ∧ (t.lk.getD i Lk0).ws.length ≤ 9223372036854775807) (ha : t.sn.length ≤ 9223372036854775807) (hrn : r.nm.size ≤ 9223372036854775807) :
  Pure En 8 [.agg (t.T false n1 n2), .one (.int .i64 now), .agg r.T] [.one (.bool true)] := by
 by_cases hb : t.lk.length ≤ 1048576 ∧ (∀ i, i < t.lk.length → (t.lk.getD i Lk0).ws.length ≤ 1048576) ∧ t.sn.length ≤ 1048576
 rotate_left
 ·exact appZ0 t now r n1 n2 hb hm hz ha hrn
 obtain ⟨hL, hW, hS⟩ := hb
 have key : (apA t now r).1.lk.length ≤ 1048577 ∧ (∀ i, i < (apA t now r).1.lk.length → ((apA t now r).1.lk.getD i Lk0).ws.length ≤ 1048577) ∧ (apA t now r).1.sn.length ≤ 1048577 := by
  by_cases h1 : t.OK ∧ r.OK
  ·by_cases h2 : 0 ≤ now ∧ now ≤ 1000000000
   ·by_cases h3 : t.nx > 999000
    ·rw [apA_used h1 h2 h3]; exact ⟨Nat.le_succ_of_le hL, fun i hi => Nat.le_succ_of_le (hW i hi), Nat.le_succ_of_le hS⟩
    ·rw [apA_go h1 h2 h3]
     obtain ⟨q1, q2, q3⟩ := rqT_bd (Bq.of h1.1 h1.2 h2 (by omega))
     exact ⟨by dsimp only; omega, fun i hi => by dsimp only at hi ⊢; have := q2 i hi; omega, by dsimp only; omega⟩
   ·rw [apA_rng h1 h2]; exact ⟨Nat.zero_le _, fun i hi => absurd hi (Nat.not_lt_zero _), Nat.zero_le _⟩
  ·rw [apA_bad h1]; exact ⟨Nat.zero_le _, fun i hi => absurd hi (Nat.not_lt_zero _), Nat.zero_le _⟩
 exact apply_law t now r n1 n2 (apA t now r).1 (apA t now r).2.1 (apA t now r).2.2 hL hW hS key.1 key.2.1 key.2.2 hm hz ha hrn (s37 t false false false now r) (fun n => o27x t now r n)
end Go.Proofs.Ytknnniaoboaghaa
