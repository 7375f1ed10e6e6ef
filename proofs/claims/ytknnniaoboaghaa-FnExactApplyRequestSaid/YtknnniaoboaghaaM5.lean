import Derived.Lib.Bytealg
import Derived.ChangeArms
import Derived.DataReads
import Derived.Test.YtknnniaoboaghaaM4
namespace Go.Proofs.Ytknnniaoboaghaa
open Go.V
set_option linter.unusedVariables false
set_option linter.unusedSimpArgs false
set_option maxRecDepth 20000
set_option maxHeartbeats 4000000
theorem getMap {α β : Type} (f : α → β) (d : α) {L : List α} {k : Nat} (h : k < L.length) : (L.map f)[k]? = some (f (L.getD k d)) := by
 simp [h]
abbrev Wt := Int × Int
def wtT (w : Wt) : List T := [.int .i64 w.1, .int .i64 w.2]
def wtV (w : Wt) : List V := [.int .i64 w.1, .int .i64 w.2]
structure An where
 kd : Int
 tk : Int
 hd : Int
 ex : Int
def An.T (a : An) : List T := [.int .i64 a.kd, .int .i64 a.tk, .int .i64 a.hd, .int .i64 a.ex]
def An.OK (a : An) : Prop := (1 ≤ a.kd ∧ a.kd ≤ 8) ∧ (0 ≤ a.tk ∧ a.tk ≤ 1000000) ∧ (-1 ≤ a.hd ∧ a.hd ≤ 255) ∧ (0 ≤ a.ex ∧ a.ex ≤ 2000000000)
instance (a : An) : Decidable a.OK := by unfold An.OK; infer_instance
structure Lk where
 nm : ByteArray
 tk : Int
 hd : Int
 ex : Int
 ws : List Wt
def Lk.T (b : Bool) (l : Lk) : List T := [.str l.nm, .int .i64 l.tk, .int .i64 l.hd, .int .i64 l.ex, .sl b (l.ws.map wtT)]
def Lk0 : Lk := ⟨⟨#[]⟩, 0, 0, 0, []⟩
structure Sn where
 cl : Int
 st : Int
 an : An
def Sn.T (s : Sn) : List T := [.int .i64 s.cl, .int .i64 s.st, .int .i64 s.an.kd, .int .i64 s.an.tk, .int .i64 s.an.hd, .int .i64 s.an.ex]
def Sn0 : Sn := ⟨0, 0, ⟨0, 0, 0, 0⟩⟩
structure Tb where
 tm : Int
 nx : Int
 lk : List Lk
 sn : List Sn
def Tb.T (t : Tb) (b n1 n2 : Bool) : List T := [.int .i64 t.tm, .int .i64 t.nx, .sl n1 (t.lk.map (Lk.T b)), .sl n2 (t.sn.map Sn.T)]
def wix (c : Int) : List Wt → Int
 | [] => -1
 | w :: r => if w.1 = c then 0 else if wix c r = -1 then -1 else wix c r + 1
theorem wix_some {c : Int} : ∀ {ws : List Wt} {i : Nat}, i < ws.length → (ws.getD i (0, 0)).1 = c → (∀ j, j < i → ¬ (ws.getD j (0, 0)).1 = c) → wix c ws = i
 | [], i, h, _, _ => absurd h (Nat.not_lt_zero _)
 | w :: r, 0, _, h, _ => by
  unfold wix
  rw [if_pos (by simpa using h)]; rfl
 | w :: r, i + 1, h, h1, h2 => by
  unfold wix
  rw [if_neg (by simpa using h2 0 (Nat.succ_pos _))]
  have := wix_some (ws := r) (i := i) (by simpa using h) (by simpa using h1) (fun j hj => by simpa using h2 (j + 1) (by omega))
  rw [this, if_neg (by omega)]; rfl
theorem wix_none {c : Int} : ∀ {ws : List Wt}, (∀ j, j < ws.length → ¬ (ws.getD j (0, 0)).1 = c) → wix c ws = -1
 | [], _ => rfl
 | w :: r, h => by
  unfold wix
  rw [if_neg (by simpa using h 0 (Nat.succ_pos _))]
  have := wix_none (ws := r) (fun j hj => by simpa using h (j + 1) (by simpa using hj))
  rw [this, if_pos rfl]
theorem wix_lt {c : Int} : ∀ {ws : List Wt} {i : Nat}, i < ws.length → (ws.getD i (0, 0)).1 = c → ((i : Int) ≤ wix c ws ↔ ∀ j, j < i → ¬ (ws.getD j (0, 0)).1 = c)
 | [], i, h, _ => absurd h (Nat.not_lt_zero _)
 | w :: r, 0, _, h => by
  unfold wix
  rw [if_pos (by simpa using h)]
  exact ⟨fun _ j hj => absurd hj (Nat.not_lt_zero _), fun _ => Int.le_refl _⟩
 | w :: r, i + 1, h, h1 => by
  have ih := wix_lt (ws := r) (i := i) (by simpa using h) (by simpa using h1)
  unfold wix
  by_cases hw : w.1 = c
  ·rw [if_pos hw]
   refine ⟨fun h => by omega, fun h => absurd (by simpa using hw) (h 0 (Nat.succ_pos _))⟩
  ·rw [if_neg hw]
   split
   ·rename_i hm
    refine ⟨fun h => by omega, fun h => ?_⟩
    have := ih.2 (fun j hj => by simpa using h (j + 1) (by omega))
    omega
   ·rename_i hm
    refine ⟨fun h j hj => ?_, fun h => ?_⟩
    ·cases j with
     | zero => simpa using hw
     | succ j => simpa using ih.1 (by omega) j (by omega)
    ·have := ih.2 (fun j hj => by simpa using h (j + 1) (by omega))
     omega
theorem o80 (w : Wt) (c : Int) {id : Nat} {h : Heap} {n : Nat} (hid : id < n) (hh : h id = some ⟨[[.int .i64 c]], 1, 3⟩) : V.Open En 141 [.agg (wtV w), .ptr id 0 0] h n (.bool (decide (w.1 = c))) [] (n + 1) := by
 refine V.Open.of_wp Try.func141 rfl (Nat.le_of_ble_eq_true rfl) ?_
 refine wSeq (wRegion (rbx (u := .agg [.int _ _, .int _ _]) rfl rfl rfl rfl rfl rfl rfl (raB rfl rfl rfl rfl rfl (rNil (qSeq (wSeq (wRegion (rfa (off := 0) (s := 1) (r := false) rfl rfl rfl (Nat.succ_ne_zero _) rfl rfl rfl ?_))))))))
 (apply rlc (v := .int _ _) rfl rfl; exact Q0; rfl; rfl; rfl; rfl; rfl; rfl)
 (apply rlc (v := .int _ _) rfl rfl; exact Q0; rfl; rfl; rfl; rfl; rfl; rfl)
 refine req rfl rfl rfl rfl rfl rfl ?_ ?_ <;> intro h1_3
 ·refine raB rfl rfl rfl rfl rfl (rNil (qSeq (wRet ?_)))
  first
   | (rw [decide_eq_true h1_3]; exact finO rfl rfl (leWr (fun j hj => absurd hj List.not_mem_nil) (fun j hj hn => by simp (disch := omega) only [↓app0, ↓appC, ↓updS, ↓updN])) (Nat.le_refl _))
   | (rw [decide_eq_false h1_3]; exact finO rfl rfl (leWr (fun j hj => absurd hj List.not_mem_nil) (fun j hj hn => by simp (disch := omega) only [↓app0, ↓appC, ↓updS, ↓updN])) (Nat.le_refl _))
 ·refine raB rfl rfl rfl rfl rfl (rNil (qSeq (wRet ?_)))
  first
   | (rw [decide_eq_true h1_3]; exact finO rfl rfl (leWr (fun j hj => absurd hj List.not_mem_nil) (fun j hj hn => by simp (disch := omega) only [↓app0, ↓appC, ↓updS, ↓updN])) (Nat.le_refl _))
   | (rw [decide_eq_false h1_3]; exact finO rfl rfl (leWr (fun j hj => absurd hj List.not_mem_nil) (fun j hj hn => by simp (disch := omega) only [↓app0, ↓appC, ↓updS, ↓updN])) (Nat.le_refl _))
theorem o79 (fr nn : Bool) (ws : List Wt) (c : Int) (hL : ws.length ≤ 1048576) {id : Nat} {h : Heap} {n : Nat} (hid : id < n) (hh : h id = some ⟨[[.int .i64 c]], 1, 3⟩) :
  V.Open En 140 [.sl fr nn (ws.map wtT), .clo 141 [.ptr id 0 0]] h n (.int .i64 (wix c ws)) [] (n + ws.length) := by
 have hl : (ws.map wtT).length = ws.length := List.length_map ..
 refine V.Open.of_wp Try.func140 rfl (Nat.le_of_ble_eq_true rfl) ?_
 refine wSeq (wRegion (raI rfl rfl rfl rfl rfl (rNil (qSeq (wSeq (wSeq (wRegion (rmL rfl rfl rfl rfl rfl (rll rfl rfl rfl rfl rfl rfl (rmI rfl rfl rfl rfl rfl (rNil (qSeq ?_))))))))))))
 refine wBlock (wLoop ?_)
 refine loopGo (fun (a : Nat × Nat) => [.sl fr nn (ws.map wtT), .clo 141 [.ptr id 0 0], .unk, .unk, .unk, .unk, .unk, .int .i64 (ws.map wtT).length, .int .i64 a.1]) (fun (a : Nat × Nat) => h) (fun (a : Nat × Nat) => a.2) (fun (a : Nat × Nat) => a.1 ≤ ws.length ∧ (∀ j, j < a.1 → ¬ (ws.getD j (0, 0)).1 = c) ∧ n + a.1 = a.2) (fun (a : Nat × Nat) => ws.length - a.1) (0, n) ?_ ?_ ?_ ?_ ?_
 ·exact ⟨Nat.zero_le _, all0, rfl⟩
 ·(repeat first | exact LE.nil _ | refine LE.unk _ _ ?_ | refine LE.eq _ _ _ rfl ?_)
 ·exact LessH.refl _
 ·exact Nat.le_refl _
 intro ⟨i, m⟩ hI ih
 dsimp only at hI ⊢
 refine lStep (wSeq (wRegion ?_))
 refine rlt rfl rfl rfl rfl rfl rfl ?_ ?_ <;> intro h2_0
 ·refine rNil (qSeq (wSeq (wT rfl (wSkip (qSeq (wSeq (wBlock (wSeq (wRegion (rmI rfl rfl rfl rfl rfl (raI rfl rfl rfl rfl rfl (rNil ?_))))))))))))
  refine qSeq (wSeq (wRegion (rmC rfl rfl rfl rfl rfl (rmL rfl rfl rfl rfl rfl (rmI rfl rfl rfl rfl rfl ?_)))))
  (apply rixl rfl rfl rfl rfl; exact Q5; (first | rfl | assumption | (exact getMap wtT (0, 0) (by omega))); rfl; rfl; rfl; rfl)
  refine rlir (vs := [.int _ _, .int _ _]) rfl rfl rfl (Nat.le_of_ble_eq_true rfl) rfl rfl rfl rfl (ropB (o80 (ws.getD i (0, 0)) c (n := m) (by omega) hh) rfl rfl rfl rfl rfl rfl ?_ ?_)
  all_goals intro h4_5
  ·refine rNil (qSeq (wT rfl (wSeq (wRegion (rmI rfl rfl rfl rfl rfl (raI rfl rfl rfl rfl rfl (rNil (qSeq (wRet (qBlockR (qSeqR (qLoopR ?_))))))))))))
   refine qBlockR (qSeqR ?_)
   rw [wix_some (i := i) (by omega) (of_decide_eq_true h4_5) hI.2.1]; exact finO rfl rfl (fun _ _ _ e => e) (by omega)
  ·refine rNil (qSeq (wF rfl (wSkip (qBlock (qSeq (wRegion (raddF rfl rfl rfl ?_ ?_ rfl rfl rfl ?_)))))))
   ·exact Q5
   ·exact Q5
   refine rmI rfl rfl rfl rfl rfl (rNil (qLoop ?_))
   exact wlH (ih (i + 1, m + 1) ⟨by dsimp only; omega, allS hI.2.1 (of_decide_eq_false h4_5), by dsimp only; omega⟩ (by dsimp only; omega)) (by (repeat first | exact LE.nil _ | refine LE.unk _ _ ?_ | refine LE.eq _ _ _ rfl ?_)) (LessH.refl _) (Nat.le_refl _)
 ·refine rNil (qSeq (wSeq (wF rfl (wExit (qSeqX (qLoopX (qBlockX (qSeq (wSeq (wRegion (raI rfl rfl rfl rfl rfl (rNil ?_))))))))))))
  refine qSeq (wRet ?_)
  rw [wix_none (fun j hj => hI.2.1 j (by omega))]; exact finO rfl rfl (fun _ _ _ e => e) (by omega)
theorem p66 (l : Lk) (nn : Bool) (c : Int) (hL : l.ws.length ≤ 1048576) : Pure En 117 [.agg [.str l.nm, .int .i64 l.tk, .int .i64 l.hd, .int .i64 l.ex, .sl nn (l.ws.map wtT)], .one (.int .i64 c)] [.one (.int .i64 (wix c l.ws))] := by
 refine Pure.of_wp Try.func117 rfl (Nat.le_of_ble_eq_true rfl) ?_
 refine wSeq (wRegion (rbx (u := .agg [.str _, .int _ _, .int _ _, .int _ _, _]) rfl rfl rfl rfl rfl rfl rfl (rbx (u := .int _ _) rfl rfl rfl rfl rfl rfl rfl (raI rfl rfl rfl rfl rfl (rNil (qSeq (wSeq (wRegion (rfa (off := 4) (s := 1) (r := false) rfl rfl rfl (Nat.succ_ne_zero _) rfl rfl rfl ?_)))))))))
 (apply rlc (v := .sl _ _ _) rfl rfl; exact Q0; rfl; rfl; rfl; rfl; rfl; rfl)
 refine rmf rfl rfl rfl rfl rfl (rop (o79 false nn l.ws c hL (id := 1) ?_ ?_) rfl rfl rfl rfl rfl rfl ?_)
 ·(first | omega | exact Q0 | exact Q5)
 ·(first | omega | exact Q0 | exact Q5)
 refine raI rfl rfl rfl rfl rfl (rNil (qSeq (wRet ?_)))
 exact fin rfl rfl
def wOK (l : Lk) (i : Nat) : Prop := (0 ≤ (l.ws.getD i (0, 0)).1 ∧ (l.ws.getD i (0, 0)).1 ≤ 255) ∧ (l.ws.getD i (0, 0)).1 ≠ l.hd ∧ (1 ≤ (l.ws.getD i (0, 0)).2 ∧ (l.ws.getD i (0, 0)).2 ≤ 1000) ∧ ∀ j, j < i → ¬ (l.ws.getD j (0, 0)).1 = (l.ws.getD i (0, 0)).1
def Lk.OK (nx : Int) (l : Lk) : Prop := opName l.nm ∧ (0 ≤ l.tk ∧ l.tk ≤ nx - 1) ∧ (-1 ≤ l.hd ∧ l.hd ≤ 255) ∧ (0 ≤ l.ex ∧ l.ex ≤ 2000000000) ∧ l.ws.length ≤ 4 ∧ (l.hd = -1 → l.ex = 0 ∧ l.ws.length = 0) ∧ ∀ i, i < l.ws.length → wOK l i
noncomputable instance (nx : Int) (l : Lk) : Decidable (l.OK nx) := Classical.propDecidable _
theorem p46 (l : Lk) (nn : Bool) (nx : Int) (hnx : 0 ≤ nx ∧ nx ≤ 1000000) : Pure En 78 [.agg [.str l.nm, .int .i64 l.tk, .int .i64 l.hd, .int .i64 l.ex, .sl nn (l.ws.map wtT)], .one (.int .i64 nx)] [.one (.bool (decide (l.OK nx)))] := by
 have hl : (l.ws.map wtT).length = l.ws.length := List.length_map ..
 refine Pure.of_wp Try.func78 rfl (Nat.le_of_ble_eq_true rfl) ?_
 refine wSeq (wRegion (rbx (u := .agg [.str _, .int _ _, .int _ _, .int _ _, _]) rfl rfl rfl rfl rfl rfl rfl (raB rfl rfl rfl rfl rfl (rNil (qSeq (wSeq (wSeq (wRegion (rfa (off := 0) (s := 1) (r := false) rfl rfl rfl (Nat.succ_ne_zero _) rfl rfl rfl ?_)))))))))
 (apply rlc (v := .str _) rfl rfl; exact Q0; rfl; rfl; rfl; rfl; rfl; rfl)
 refine rclP (p53 _) rfl rfl rfl rfl rfl rfl ?_ ?_ <;> intro h1_2
 ·refine rnot (c := true) rfl rfl rfl rfl rfl (rmB rfl rfl rfl rfl rfl (rfa (off := 1) (s := 1) (r := false) rfl rfl rfl (Nat.succ_ne_zero _) rfl rfl rfl ?_))
  (apply rlc (v := .int _ _) rfl rfl; exact Q0; rfl; rfl; rfl; rfl; rfl; rfl)
  refine rmI rfl rfl rfl rfl rfl (rsubF rfl rfl rfl ?_ ?_ rfl rfl rfl ?_)
  ·exact Q5
  ·exact Q5
  refine rclP (p45 _ _ _) rfl rfl rfl rfl rfl rfl ?_ ?_ <;> intro h1_9
  ·refine rnot (c := true) rfl rfl rfl rfl rfl (rpk (e := false) rfl rfl rfl rfl rfl rfl (rmB rfl rfl rfl rfl rfl (rfa (off := 2) (s := 1) (r := false) rfl rfl rfl (Nat.succ_ne_zero _) rfl rfl rfl ?_)))
   (apply rlc (v := .int _ _) rfl rfl; exact Q0; rfl; rfl; rfl; rfl; rfl; rfl)
   refine rclP (p45 _ _ _) rfl rfl rfl rfl rfl rfl ?_ ?_ <;> intro h1_15
   ·refine rnot (c := true) rfl rfl rfl rfl rfl (rpk (e := false) rfl rfl rfl rfl rfl rfl (rmB rfl rfl rfl rfl rfl (rfa (off := 3) (s := 1) (r := false) rfl rfl rfl (Nat.succ_ne_zero _) rfl rfl rfl ?_)))
    (apply rlc (v := .int _ _) rfl rfl; exact Q0; rfl; rfl; rfl; rfl; rfl; rfl)
    refine rclP (p45 _ _ _) rfl rfl rfl rfl rfl rfl ?_ ?_ <;> intro h1_21
    ·refine rnot (c := true) rfl rfl rfl rfl rfl (rpk (e := false) rfl rfl rfl rfl rfl rfl (rmB rfl rfl rfl rfl rfl (rfa (off := 4) (s := 1) (r := false) rfl rfl rfl (Nat.succ_ne_zero _) rfl rfl rfl ?_)))
     (apply rlc (v := .sl _ _ _) rfl rfl; exact Q0; rfl; rfl; rfl; rfl; rfl; rfl)
     refine rll rfl rfl rfl rfl rfl rfl ?_
     refine rgt rfl rfl rfl rfl rfl rfl ?_ ?_ <;> intro h1_28
     ·refine rpk (e := true) rfl rfl rfl rfl rfl rfl (rNil (qSeq (wT rfl (wSeq (wRegion (raB rfl rfl rfl rfl rfl (rNil (qSeq (wRet (qSeqR ?_))))))))))
      first
       | exact finT rfl ⟨by assumption, by omega, by assumption, by assumption, by omega, fun hq => by first | exact absurd hq (by assumption) | exact ⟨by omega, by omega⟩, fun j hj => hI.2.1 j (by omega)⟩
       | (refine finF rfl fun hw => ?_; obtain ⟨w1, w2, w3, w4, w5, w6, w7⟩ := hw; first | contradiction | omega | (have := w6 (by assumption); omega) | (obtain ⟨v1, v2, v3, v4⟩ := w7 i (by omega); first | contradiction | exact h8_2 v1 | exact v2 h8_9 | exact h8_14 v3 | (have h := h8_23; simp only [Int.toNat_natCast] at h; have := (wix_lt (ws := l.ws) (i := i) (by omega) rfl).2 v4; omega)))
     ·refine rpk (e := false) rfl rfl rfl rfl rfl rfl (rNil (qSeq (wF rfl (wSkip (qSeq (wSeq (wSeq (wRegion (rfa (off := 2) (s := 1) (r := false) rfl rfl rfl (Nat.succ_ne_zero _) rfl rfl rfl ?_)))))))))
      (apply rlc (v := .int _ _) rfl rfl; exact Q0; rfl; rfl; rfl; rfl; rfl; rfl)
      refine req rfl rfl rfl rfl rfl rfl ?_ ?_ <;> intro h3_2
      ·refine rmB rfl rfl rfl rfl rfl (rfa (off := 3) (s := 1) (r := false) rfl rfl rfl (Nat.succ_ne_zero _) rfl rfl rfl ?_)
       (apply rlc (v := .int _ _) rfl rfl; exact Q0; rfl; rfl; rfl; rfl; rfl; rfl)
       refine rne rfl rfl rfl rfl rfl rfl ?_ ?_ <;> intro h3_6
       ·refine rmB rfl rfl rfl rfl rfl (rSkip rfl rfl rfl (rSkip rfl rfl rfl (rSkip rfl rfl rfl (rSkip rfl rfl rfl (rpk (e := true) rfl rfl rfl rfl rfl rfl (rpk (e := true) rfl rfl rfl rfl rfl rfl (rNil (qSeq (wT rfl (wSeq (wRegion (raB rfl rfl rfl rfl rfl ?_))))))))))))
        refine rNil (qSeq (wRet (qSeqR ?_)))
        first
         | exact finT rfl ⟨by assumption, by omega, by assumption, by assumption, by omega, fun hq => by first | exact absurd hq (by assumption) | exact ⟨by omega, by omega⟩, fun j hj => hI.2.1 j (by omega)⟩
         | (refine finF rfl fun hw => ?_; obtain ⟨w1, w2, w3, w4, w5, w6, w7⟩ := hw; first | contradiction | omega | (have := w6 (by assumption); omega) | (obtain ⟨v1, v2, v3, v4⟩ := w7 i (by omega); first | contradiction | exact h8_2 v1 | exact v2 h8_9 | exact h8_14 v3 | (have h := h8_23; simp only [Int.toNat_natCast] at h; have := (wix_lt (ws := l.ws) (i := i) (by omega) rfl).2 v4; omega)))
       ·refine rmB rfl rfl rfl rfl rfl (rfa (off := 4) (s := 1) (r := false) rfl rfl rfl (Nat.succ_ne_zero _) rfl rfl rfl ?_)
        (apply rlc (v := .sl _ _ _) rfl rfl; exact Q0; rfl; rfl; rfl; rfl; rfl; rfl)
        refine rll rfl rfl rfl rfl rfl rfl ?_
        refine rgt rfl rfl rfl rfl rfl rfl ?_ ?_ <;> intro h3_11
        ·refine rpk (e := true) rfl rfl rfl rfl rfl rfl (rpk (e := true) rfl rfl rfl rfl rfl rfl (rNil (qSeq (wT rfl (wSeq (wRegion (raB rfl rfl rfl rfl rfl (rNil (qSeq (wRet (qSeqR ?_)))))))))))
         first
          | exact finT rfl ⟨by assumption, by omega, by assumption, by assumption, by omega, fun hq => by first | exact absurd hq (by assumption) | exact ⟨by omega, by omega⟩, fun j hj => hI.2.1 j (by omega)⟩
          | (refine finF rfl fun hw => ?_; obtain ⟨w1, w2, w3, w4, w5, w6, w7⟩ := hw; first | contradiction | omega | (have := w6 (by assumption); omega) | (obtain ⟨v1, v2, v3, v4⟩ := w7 i (by omega); first | contradiction | exact h8_2 v1 | exact v2 h8_9 | exact h8_14 v3 | (have h := h8_23; simp only [Int.toNat_natCast] at h; have := (wix_lt (ws := l.ws) (i := i) (by omega) rfl).2 v4; omega)))
        ·refine rpk (e := false) rfl rfl rfl rfl rfl rfl (rpk (e := false) rfl rfl rfl rfl rfl rfl (rNil (qSeq (wF rfl (wSkip (qSeq (wSeq (wSeq (wRegion (rfa (off := 4) (s := 1) (r := false) rfl rfl rfl (Nat.succ_ne_zero _) rfl rfl rfl ?_))))))))))
         (apply rlc (v := .sl _ _ _) rfl rfl; exact Q0; rfl; rfl; rfl; rfl; rfl; rfl)
         refine rll rfl rfl rfl rfl rfl rfl (rmI rfl rfl rfl rfl rfl (rNil (qSeq (wBlock (wLoop ?_)))))
         refine loopGo (fun (a : Nat × Nat) => [.unk, .unk, .ptr 0 0 0, .unk, .unk, .unk, .unk, .unk, .unk, .unk, .unk, .unk, .unk, .unk, .unk, .unk, .unk, .unk, .unk, .unk, .unk, .unk, .unk, .unk, .unk, .unk, .unk, .unk, .unk, .unk, .unk, .unk, .unk, .unk, .unk, .unk, .unk, .unk, .unk, .unk, .unk, .unk, .unk, .unk, .unk, .unk, .unk, .unk, .unk, .unk, .unk, .unk, .sl false nn (l.ws.map wtT), .int .i64 (l.ws.map wtT).length, .int .i64 a.1]) (fun (a : Nat × Nat) => hp [(0, ⟨[[.str l.nm, .int .i64 l.tk, .int .i64 l.hd, .int .i64 l.ex, .sl false nn (l.ws.map wtT)]], 5, 29⟩)]) (fun (a : Nat × Nat) => a.2) (fun (a : Nat × Nat) => a.1 ≤ l.ws.length ∧ (∀ j, j < a.1 → wOK l j) ∧ 1 ≤ a.2) (fun (a : Nat × Nat) => l.ws.length - a.1) (0, 1) ?_ ?_ ?_ ?_ ?_
         ·exact ⟨Nat.zero_le _, all0, Nat.le_refl _⟩
         ·(repeat first | exact LE.nil _ | refine LE.unk _ _ ?_ | refine LE.eq _ _ _ rfl ?_)
         ·(repeat first | exact lessH0 | (refine lessHc ?_ ?_; exact Q34))
         ·exact Nat.le_refl _
         intro ⟨i, m⟩ hI ih
         dsimp only at hI ⊢
         refine lStep (wSeq (wRegion ?_))
         refine rlt rfl rfl rfl rfl rfl rfl ?_ ?_ <;> intro h6_0
         ·refine rNil (qSeq (wSeq (wT rfl (wSkip (qSeq (wSeq (wBlock (wSeq ?_))))))))
          exfalso; omega
         ·refine rNil (qSeq (wSeq (wF rfl (wExit (qSeqX (qLoopX (qBlockX (qSeq (wSeq (wRegion (raB rfl rfl rfl rfl rfl (rNil ?_))))))))))))
          refine qSeq (wRet ?_)
          first
           | exact finT rfl ⟨by assumption, by omega, by assumption, by assumption, by omega, fun hq => by first | exact absurd hq (by assumption) | exact ⟨by omega, by omega⟩, fun j hj => hI.2.1 j (by omega)⟩
           | (refine finF rfl fun hw => ?_; obtain ⟨w1, w2, w3, w4, w5, w6, w7⟩ := hw; first | contradiction | omega | (have := w6 (by assumption); omega) | (obtain ⟨v1, v2, v3, v4⟩ := w7 i (by omega); first | contradiction | exact h8_2 v1 | exact v2 h8_9 | exact h8_14 v3 | (have h := h8_23; simp only [Int.toNat_natCast] at h; have := (wix_lt (ws := l.ws) (i := i) (by omega) rfl).2 v4; omega)))
      ·refine rmB rfl rfl rfl rfl rfl (rSkip rfl rfl rfl (rSkip rfl rfl rfl (rSkip rfl rfl rfl (rSkip rfl rfl rfl (rSkip rfl rfl rfl (rSkip rfl rfl rfl (rSkip rfl rfl rfl (rSkip rfl rfl rfl (rSkip rfl rfl rfl (rpk (e := false) rfl rfl rfl rfl rfl rfl (rNil (qSeq ?_))))))))))))
       refine wF rfl (wSkip (qSeq (wSeq (wSeq (wRegion (rfa (off := 4) (s := 1) (r := false) rfl rfl rfl (Nat.succ_ne_zero _) rfl rfl rfl ?_))))))
       (apply rlc (v := .sl _ _ _) rfl rfl; exact Q0; rfl; rfl; rfl; rfl; rfl; rfl)
       refine rll rfl rfl rfl rfl rfl rfl (rmI rfl rfl rfl rfl rfl (rNil (qSeq (wBlock (wLoop ?_)))))
       refine loopGo (fun (a : Nat × Nat) => [.unk, .unk, .ptr 0 0 0, .unk, .unk, .unk, .unk, .unk, .unk, .unk, .unk, .unk, .unk, .unk, .unk, .unk, .unk, .unk, .unk, .unk, .unk, .unk, .unk, .unk, .unk, .unk, .unk, .unk, .unk, .unk, .unk, .unk, .unk, .unk, .unk, .unk, .unk, .unk, .unk, .unk, .unk, .unk, .unk, .unk, .unk, .unk, .unk, .unk, .unk, .unk, .unk, .unk, .sl false nn (l.ws.map wtT), .int .i64 (l.ws.map wtT).length, .int .i64 a.1]) (fun (a : Nat × Nat) => hp [(0, ⟨[[.str l.nm, .int .i64 l.tk, .int .i64 l.hd, .int .i64 l.ex, .sl false nn (l.ws.map wtT)]], 5, 29⟩)]) (fun (a : Nat × Nat) => a.2) (fun (a : Nat × Nat) => a.1 ≤ l.ws.length ∧ (∀ j, j < a.1 → wOK l j) ∧ 1 ≤ a.2) (fun (a : Nat × Nat) => l.ws.length - a.1) (0, 1) ?_ ?_ ?_ ?_ ?_
       ·exact ⟨Nat.zero_le _, all0, Nat.le_refl _⟩
       ·(repeat first | exact LE.nil _ | refine LE.unk _ _ ?_ | refine LE.eq _ _ _ rfl ?_)
       ·(repeat first | exact lessH0 | (refine lessHc ?_ ?_; exact Q34))
       ·exact Nat.le_refl _
       intro ⟨i, m⟩ hI ih
       dsimp only at hI ⊢
       refine lStep (wSeq (wRegion ?_))
       refine rlt rfl rfl rfl rfl rfl rfl ?_ ?_ <;> intro h6_0
       ·refine rNil (qSeq (wSeq (wT rfl (wSkip (qSeq (wSeq (wBlock (wSeq (wRegion (rmI rfl rfl rfl rfl rfl ?_))))))))))
        (apply rixl rfl rfl rfl rfl; exact Q5; (first | rfl | assumption | (exact getMap wtT (0, 0) (by omega))); rfl; rfl; rfl; rfl)
        refine rlir (vs := [.int _ _, .int _ _]) rfl rfl rfl (Nat.le_of_ble_eq_true rfl) rfl rfl rfl rfl (ral rfl rfl rfl rfl rfl rfl (raI rfl rfl rfl rfl rfl ?_))
        (apply rst (u := .agg [.int _ _, .int _ _]) rfl rfl rfl; exact Q0; rfl; rfl; rfl; rfl; rfl; (exact Nat.le_of_ble_eq_true rfl); rfl; rfl; rfl)
        refine rNil (qSeq (wSeq (wRegion (rfa (off := 0) (s := 1) (r := false) rfl rfl rfl (Nat.succ_ne_zero _) rfl rfl rfl ?_))))
        (apply rlc (v := .int _ _) rfl rfl; exact Q0; rfl; rfl; rfl; rfl; rfl; rfl)
        refine rclP (p45 _ _ _) rfl rfl rfl rfl rfl rfl ?_ ?_ <;> intro h8_2
        ·refine rnot (c := true) rfl rfl rfl rfl rfl (rmB rfl rfl rfl rfl rfl (rfa (off := 0) (s := 1) (r := false) rfl rfl rfl (Nat.succ_ne_zero _) rfl rfl rfl ?_))
         (apply rlc (v := .int _ _) rfl rfl; exact Q0; rfl; rfl; rfl; rfl; rfl; rfl)
         refine rfa (off := 2) (s := 1) (r := false) rfl rfl rfl (Nat.succ_ne_zero _) rfl rfl rfl ?_
         (apply rlc (v := .int _ _) rfl rfl; exact Q0; rfl; rfl; rfl; rfl; rfl; rfl)
         refine req rfl rfl rfl rfl rfl rfl ?_ ?_ <;> intro h8_9
         ·refine rpk (e := true) rfl rfl rfl rfl rfl rfl (rmB rfl rfl rfl rfl rfl (rSkip rfl rfl rfl (rSkip rfl rfl rfl (rSkip rfl rfl rfl (rSkip rfl rfl rfl (rpk (e := true) rfl rfl rfl rfl rfl rfl (rmB rfl rfl rfl rfl rfl (rSkip rfl rfl rfl (rSkip rfl rfl rfl (rSkip rfl rfl rfl (rSkip rfl rfl rfl (rSkip rfl rfl rfl ?_))))))))))))
          refine rSkip rfl rfl rfl (rpk (e := true) rfl rfl rfl rfl rfl rfl (rNil (qSeq (wT rfl (wSeq (wRegion (raB rfl rfl rfl rfl rfl (rNil (qSeq (wRet (qBlockR (qSeqR ?_))))))))))))
          refine qLoopR (qBlockR (qSeqR ?_))
          first
           | exact finT rfl ⟨by assumption, by omega, by assumption, by assumption, by omega, fun hq => by first | exact absurd hq (by assumption) | exact ⟨by omega, by omega⟩, fun j hj => hI.2.1 j (by omega)⟩
           | (refine finF rfl fun hw => ?_; obtain ⟨w1, w2, w3, w4, w5, w6, w7⟩ := hw; first | contradiction | omega | (have := w6 (by assumption); omega) | (obtain ⟨v1, v2, v3, v4⟩ := w7 i (by omega); first | contradiction | exact h8_2 v1 | exact v2 h8_9 | exact h8_14 v3 | (have h := h8_23; simp only [Int.toNat_natCast] at h; have := (wix_lt (ws := l.ws) (i := i) (by omega) rfl).2 v4; omega)))
         ·refine rpk (e := false) rfl rfl rfl rfl rfl rfl (rmB rfl rfl rfl rfl rfl (rfa (off := 1) (s := 1) (r := false) rfl rfl rfl (Nat.succ_ne_zero _) rfl rfl rfl ?_))
          (apply rlc (v := .int _ _) rfl rfl; exact Q0; rfl; rfl; rfl; rfl; rfl; rfl)
          refine rclP (p45 _ _ _) rfl rfl rfl rfl rfl rfl ?_ ?_ <;> intro h8_14
          ·refine rnot (c := true) rfl rfl rfl rfl rfl (rpk (e := false) rfl rfl rfl rfl rfl rfl (rmB rfl rfl rfl rfl rfl ?_))
           (apply rlr (vs := [.str _, .int _ _, .int _ _, .int _ _, _]) rfl rfl; exact Q0; rfl; rfl; (exact Nat.le_of_ble_eq_true rfl); rfl; rfl; rfl; rfl)
           refine rfa (off := 0) (s := 1) (r := false) rfl rfl rfl (Nat.succ_ne_zero _) rfl rfl rfl ?_
           (apply rlc (v := .int _ _) rfl rfl; exact Q0; rfl; rfl; rfl; rfl; rfl; rfl)
           refine rcl (p66 l nn _ (by omega)) rfl rfl rfl rfl rfl rfl ?_
           refine rmI rfl rfl rfl rfl rfl ?_
           refine rlt rfl rfl rfl rfl rfl rfl ?_ ?_ <;> intro h8_23
           ·refine rpk (e := true) rfl rfl rfl rfl rfl rfl (rNil (qSeq (wT rfl (wSeq (wRegion (raB rfl rfl rfl rfl rfl (rNil (qSeq (wRet (qBlockR (qSeqR (qLoopR ?_))))))))))))
            refine qBlockR (qSeqR ?_)
            first
             | exact finT rfl ⟨by assumption, by omega, by assumption, by assumption, by omega, fun hq => by first | exact absurd hq (by assumption) | exact ⟨by omega, by omega⟩, fun j hj => hI.2.1 j (by omega)⟩
             | (refine finF rfl fun hw => ?_; obtain ⟨w1, w2, w3, w4, w5, w6, w7⟩ := hw; first | contradiction | omega | (have := w6 (by assumption); omega) | (obtain ⟨v1, v2, v3, v4⟩ := w7 i (by omega); first | contradiction | exact h8_2 v1 | exact v2 h8_9 | exact h8_14 v3 | (have h := h8_23; simp only [Int.toNat_natCast] at h; have := (wix_lt (ws := l.ws) (i := i) (by omega) rfl).2 v4; omega)))
           ·refine rpk (e := false) rfl rfl rfl rfl rfl rfl (rNil (qSeq (wF rfl (wSkip (qBlock (qSeq (wRegion (raddF rfl rfl rfl ?_ ?_ rfl rfl rfl ?_))))))))
            ·exact Q5
            ·exact Q5
            refine rmI rfl rfl rfl rfl rfl (rNil (qLoop ?_))
            exact wlH (ih (i + 1, m + 1) ⟨by dsimp only; omega, allS hI.2.1 ⟨h8_2, h8_9, h8_14, (wix_lt (ws := l.ws) (i := i) (by omega) rfl).1 (by have h := h8_23; simp only [Int.toNat_natCast] at h; omega)⟩, by dsimp only; omega⟩ (by dsimp only; omega)) (by (repeat first | exact LE.nil _ | refine LE.unk _ _ ?_ | refine LE.eq _ _ _ rfl ?_)) (by (repeat first | exact lessH0 | (refine lessHc ?_ ?_; exact Q34))) (Nat.le_refl _)
          ·refine rnot (c := false) rfl rfl rfl rfl rfl (rpk (e := true) rfl rfl rfl rfl rfl rfl (rmB rfl rfl rfl rfl rfl (rSkip rfl rfl rfl (rSkip rfl rfl rfl (rSkip rfl rfl rfl (rSkip rfl rfl rfl (rSkip rfl rfl rfl (rSkip rfl rfl rfl (rpk (e := true) rfl rfl rfl rfl rfl rfl (rNil (qSeq (wT rfl ?_))))))))))))
           refine wSeq (wRegion (raB rfl rfl rfl rfl rfl (rNil (qSeq (wRet (qBlockR (qSeqR (qLoopR (qBlockR (qSeqR ?_))))))))))
           first
            | exact finT rfl ⟨by assumption, by omega, by assumption, by assumption, by omega, fun hq => by first | exact absurd hq (by assumption) | exact ⟨by omega, by omega⟩, fun j hj => hI.2.1 j (by omega)⟩
            | (refine finF rfl fun hw => ?_; obtain ⟨w1, w2, w3, w4, w5, w6, w7⟩ := hw; first | contradiction | omega | (have := w6 (by assumption); omega) | (obtain ⟨v1, v2, v3, v4⟩ := w7 i (by omega); first | contradiction | exact h8_2 v1 | exact v2 h8_9 | exact h8_14 v3 | (have h := h8_23; simp only [Int.toNat_natCast] at h; have := (wix_lt (ws := l.ws) (i := i) (by omega) rfl).2 v4; omega)))
        ·refine rnot (c := false) rfl rfl rfl rfl rfl (rmB rfl rfl rfl rfl rfl (rSkip rfl rfl rfl (rSkip rfl rfl rfl (rSkip rfl rfl rfl (rSkip rfl rfl rfl (rSkip rfl rfl rfl (rpk (e := true) rfl rfl rfl rfl rfl rfl (rmB rfl rfl rfl rfl rfl (rSkip rfl rfl rfl (rSkip rfl rfl rfl (rSkip rfl rfl rfl (rSkip rfl rfl rfl ?_))))))))))))
         refine rpk (e := true) rfl rfl rfl rfl rfl rfl (rmB rfl rfl rfl rfl rfl (rSkip rfl rfl rfl (rSkip rfl rfl rfl (rSkip rfl rfl rfl (rSkip rfl rfl rfl (rSkip rfl rfl rfl (rSkip rfl rfl rfl (rpk (e := true) rfl rfl rfl rfl rfl rfl (rNil (qSeq (wT rfl (wSeq ?_))))))))))))
         refine wRegion (raB rfl rfl rfl rfl rfl (rNil (qSeq (wRet (qBlockR (qSeqR (qLoopR (qBlockR (qSeqR ?_)))))))))
         first
          | exact finT rfl ⟨by assumption, by omega, by assumption, by assumption, by omega, fun hq => by first | exact absurd hq (by assumption) | exact ⟨by omega, by omega⟩, fun j hj => hI.2.1 j (by omega)⟩
          | (refine finF rfl fun hw => ?_; obtain ⟨w1, w2, w3, w4, w5, w6, w7⟩ := hw; first | contradiction | omega | (have := w6 (by assumption); omega) | (obtain ⟨v1, v2, v3, v4⟩ := w7 i (by omega); first | contradiction | exact h8_2 v1 | exact v2 h8_9 | exact h8_14 v3 | (have h := h8_23; simp only [Int.toNat_natCast] at h; have := (wix_lt (ws := l.ws) (i := i) (by omega) rfl).2 v4; omega)))
       ·refine rNil (qSeq (wSeq (wF rfl (wExit (qSeqX (qLoopX (qBlockX (qSeq (wSeq (wRegion (raB rfl rfl rfl rfl rfl (rNil ?_))))))))))))
        refine qSeq (wRet ?_)
        first
         | exact finT rfl ⟨by assumption, by omega, by assumption, by assumption, by omega, fun hq => by first | exact absurd hq (by assumption) | exact ⟨by omega, by omega⟩, fun j hj => hI.2.1 j (by omega)⟩
         | (refine finF rfl fun hw => ?_; obtain ⟨w1, w2, w3, w4, w5, w6, w7⟩ := hw; first | contradiction | omega | (have := w6 (by assumption); omega) | (obtain ⟨v1, v2, v3, v4⟩ := w7 i (by omega); first | contradiction | exact h8_2 v1 | exact v2 h8_9 | exact h8_14 v3 | (have h := h8_23; simp only [Int.toNat_natCast] at h; have := (wix_lt (ws := l.ws) (i := i) (by omega) rfl).2 v4; omega)))
    ·refine rnot (c := false) rfl rfl rfl rfl rfl (rpk (e := true) rfl rfl rfl rfl rfl rfl (rmB rfl rfl rfl rfl rfl (rSkip rfl rfl rfl (rSkip rfl rfl rfl (rSkip rfl rfl rfl (rSkip rfl rfl rfl (rpk (e := true) rfl rfl rfl rfl rfl rfl (rNil (qSeq (wT rfl (wSeq (wRegion ?_))))))))))))
     refine raB rfl rfl rfl rfl rfl (rNil (qSeq (wRet (qSeqR ?_))))
     first
      | exact finT rfl ⟨by assumption, by omega, by assumption, by assumption, by omega, fun hq => by first | exact absurd hq (by assumption) | exact ⟨by omega, by omega⟩, fun j hj => hI.2.1 j (by omega)⟩
      | (refine finF rfl fun hw => ?_; obtain ⟨w1, w2, w3, w4, w5, w6, w7⟩ := hw; first | contradiction | omega | (have := w6 (by assumption); omega) | (obtain ⟨v1, v2, v3, v4⟩ := w7 i (by omega); first | contradiction | exact h8_2 v1 | exact v2 h8_9 | exact h8_14 v3 | (have h := h8_23; simp only [Int.toNat_natCast] at h; have := (wix_lt (ws := l.ws) (i := i) (by omega) rfl).2 v4; omega)))
   ·refine rnot (c := false) rfl rfl rfl rfl rfl (rpk (e := true) rfl rfl rfl rfl rfl rfl (rmB rfl rfl rfl rfl rfl (rSkip rfl rfl rfl (rSkip rfl rfl rfl (rSkip rfl rfl rfl (rSkip rfl rfl rfl (rpk (e := true) rfl rfl rfl rfl rfl rfl (rmB rfl rfl rfl rfl rfl (rSkip rfl rfl rfl (rSkip rfl rfl rfl (rSkip rfl rfl rfl (rSkip rfl rfl rfl ?_))))))))))))
    refine rpk (e := true) rfl rfl rfl rfl rfl rfl (rNil (qSeq (wT rfl (wSeq (wRegion (raB rfl rfl rfl rfl rfl (rNil (qSeq (wRet (qSeqR ?_))))))))))
    first
     | exact finT rfl ⟨by assumption, by omega, by assumption, by assumption, by omega, fun hq => by first | exact absurd hq (by assumption) | exact ⟨by omega, by omega⟩, fun j hj => hI.2.1 j (by omega)⟩
     | (refine finF rfl fun hw => ?_; obtain ⟨w1, w2, w3, w4, w5, w6, w7⟩ := hw; first | contradiction | omega | (have := w6 (by assumption); omega) | (obtain ⟨v1, v2, v3, v4⟩ := w7 i (by omega); first | contradiction | exact h8_2 v1 | exact v2 h8_9 | exact h8_14 v3 | (have h := h8_23; simp only [Int.toNat_natCast] at h; have := (wix_lt (ws := l.ws) (i := i) (by omega) rfl).2 v4; omega)))
  ·refine rnot (c := false) rfl rfl rfl rfl rfl (rpk (e := true) rfl rfl rfl rfl rfl rfl (rmB rfl rfl rfl rfl rfl (rSkip rfl rfl rfl (rSkip rfl rfl rfl (rSkip rfl rfl rfl (rSkip rfl rfl rfl (rpk (e := true) rfl rfl rfl rfl rfl rfl (rmB rfl rfl rfl rfl rfl (rSkip rfl rfl rfl (rSkip rfl rfl rfl (rSkip rfl rfl rfl (rSkip rfl rfl rfl ?_))))))))))))
   refine rpk (e := true) rfl rfl rfl rfl rfl rfl (rmB rfl rfl rfl rfl rfl (rSkip rfl rfl rfl (rSkip rfl rfl rfl (rSkip rfl rfl rfl (rSkip rfl rfl rfl (rpk (e := true) rfl rfl rfl rfl rfl rfl (rNil (qSeq (wT rfl (wSeq (wRegion (raB rfl rfl rfl rfl rfl ?_))))))))))))
   refine rNil (qSeq (wRet (qSeqR ?_)))
   first
    | exact finT rfl ⟨by assumption, by omega, by assumption, by assumption, by omega, fun hq => by first | exact absurd hq (by assumption) | exact ⟨by omega, by omega⟩, fun j hj => hI.2.1 j (by omega)⟩
    | (refine finF rfl fun hw => ?_; obtain ⟨w1, w2, w3, w4, w5, w6, w7⟩ := hw; first | contradiction | omega | (have := w6 (by assumption); omega) | (obtain ⟨v1, v2, v3, v4⟩ := w7 i (by omega); first | contradiction | exact h8_2 v1 | exact v2 h8_9 | exact h8_14 v3 | (have h := h8_23; simp only [Int.toNat_natCast] at h; have := (wix_lt (ws := l.ws) (i := i) (by omega) rfl).2 v4; omega)))
 ·refine rnot (c := false) rfl rfl rfl rfl rfl (rmB rfl rfl rfl rfl rfl (rSkip rfl rfl rfl (rSkip rfl rfl rfl (rSkip rfl rfl rfl (rSkip rfl rfl rfl (rSkip rfl rfl rfl (rSkip rfl rfl rfl (rpk (e := true) rfl rfl rfl rfl rfl rfl (rmB rfl rfl rfl rfl rfl (rSkip rfl rfl rfl (rSkip rfl rfl rfl (rSkip rfl rfl rfl ?_))))))))))))
  refine rSkip rfl rfl rfl (rpk (e := true) rfl rfl rfl rfl rfl rfl (rmB rfl rfl rfl rfl rfl (rSkip rfl rfl rfl (rSkip rfl rfl rfl (rSkip rfl rfl rfl (rSkip rfl rfl rfl (rpk (e := true) rfl rfl rfl rfl rfl rfl (rmB rfl rfl rfl rfl rfl (rSkip rfl rfl rfl (rSkip rfl rfl rfl (rSkip rfl rfl rfl (rSkip rfl rfl rfl ?_))))))))))))
  refine rpk (e := true) rfl rfl rfl rfl rfl rfl (rNil (qSeq (wT rfl (wSeq (wRegion (raB rfl rfl rfl rfl rfl (rNil (qSeq (wRet (qSeqR ?_))))))))))
  first
   | exact finT rfl ⟨by assumption, by omega, by assumption, by assumption, by omega, fun hq => by first | exact absurd hq (by assumption) | exact ⟨by omega, by omega⟩, fun j hj => hI.2.1 j (by omega)⟩
   | (refine finF rfl fun hw => ?_; obtain ⟨w1, w2, w3, w4, w5, w6, w7⟩ := hw; first | contradiction | omega | (have := w6 (by assumption); omega) | (obtain ⟨v1, v2, v3, v4⟩ := w7 i (by omega); first | contradiction | exact h8_2 v1 | exact v2 h8_9 | exact h8_14 v3 | (have h := h8_23; simp only [Int.toNat_natCast] at h; have := (wix_lt (ws := l.ws) (i := i) (by omega) rfl).2 v4; omega)))
open Go.V
set_option linter.unusedVariables false
set_option linter.unusedSimpArgs false
set_option maxRecDepth 20000
set_option maxHeartbeats 4000000
theorem p47 (a : An) : Pure En 79 [.agg a.T] [.one (.bool (decide a.OK))] := by
 refine Pure.of_wp Try.func79 rfl (Nat.le_of_ble_eq_true rfl) ?_
 refine wSeq (wRegion (rbx (u := .agg [.int _ _, .int _ _, .int _ _, .int _ _]) rfl rfl rfl rfl rfl rfl rfl (raB rfl rfl rfl rfl rfl (rNil (qSeq (wSeq (wRegion (rfa (off := 0) (s := 1) (r := false) rfl rfl rfl (Nat.succ_ne_zero _) rfl rfl rfl (rlc (v := .int _ _) rfl rfl rfl rfl rfl rfl rfl rfl rfl ?_)))))))))
 refine rclP (p45 _ _ _) rfl rfl rfl rfl rfl rfl ?_ ?_ <;> intro h1_2
 ·refine rmB rfl rfl rfl rfl rfl (rfa (off := 1) (s := 1) (r := false) rfl rfl rfl (Nat.succ_ne_zero _) rfl rfl rfl (rlc (v := .int _ _) rfl rfl rfl rfl rfl rfl rfl rfl rfl ?_))
  refine rclP (p45 _ _ _) rfl rfl rfl rfl rfl rfl ?_ ?_ <;> intro h1_6
  ·refine rpk (e := true) rfl rfl rfl rfl rfl rfl (rmB rfl rfl rfl rfl rfl (rfa (off := 2) (s := 1) (r := false) rfl rfl rfl (Nat.succ_ne_zero _) rfl rfl rfl (rlc (v := .int _ _) rfl rfl rfl rfl rfl rfl rfl rfl rfl ?_)))
   refine rclP (p45 _ _ _) rfl rfl rfl rfl rfl rfl ?_ ?_ <;> intro h1_11
   ·refine rpk (e := true) rfl rfl rfl rfl rfl rfl (rmB rfl rfl rfl rfl rfl (rfa (off := 3) (s := 1) (r := false) rfl rfl rfl (Nat.succ_ne_zero _) rfl rfl rfl (rlc (v := .int _ _) rfl rfl rfl rfl rfl rfl rfl rfl rfl ?_)))
    refine rclP (p45 _ _ _) rfl rfl rfl rfl rfl rfl ?_ ?_ <;> intro h1_16
    ·refine rpk (e := true) rfl rfl rfl rfl rfl rfl (raB rfl rfl rfl rfl rfl (rNil (qSeq (wRet ?_))))
     first | (refine finT rfl ?_; unfold An.OK; omega) | (refine finF rfl ?_; unfold An.OK; omega)
    ·refine rpk (e := false) rfl rfl rfl rfl rfl rfl (raB rfl rfl rfl rfl rfl (rNil (qSeq (wRet ?_))))
     first | (refine finT rfl ?_; unfold An.OK; omega) | (refine finF rfl ?_; unfold An.OK; omega)
   ·refine rpk (e := false) rfl rfl rfl rfl rfl rfl (rmB rfl rfl rfl rfl rfl (rSkip rfl rfl rfl (rSkip rfl rfl rfl (rSkip rfl rfl rfl (rpk (e := false) rfl rfl rfl rfl rfl rfl (raB rfl rfl rfl rfl rfl (rNil (qSeq (wRet ?_)))))))))
    first | (refine finT rfl ?_; unfold An.OK; omega) | (refine finF rfl ?_; unfold An.OK; omega)
  ·refine rpk (e := false) rfl rfl rfl rfl rfl rfl (rmB rfl rfl rfl rfl rfl (rSkip rfl rfl rfl (rSkip rfl rfl rfl (rSkip rfl rfl rfl (rpk (e := false) rfl rfl rfl rfl rfl rfl (rmB rfl rfl rfl rfl rfl (rSkip rfl rfl rfl (rSkip rfl rfl rfl (rSkip rfl rfl rfl (rpk (e := false) rfl rfl rfl rfl rfl rfl (raB rfl rfl rfl rfl rfl (rNil ?_))))))))))))
   refine qSeq (wRet ?_)
   first | (refine finT rfl ?_; unfold An.OK; omega) | (refine finF rfl ?_; unfold An.OK; omega)
 ·refine rmB rfl rfl rfl rfl rfl (rSkip rfl rfl rfl (rSkip rfl rfl rfl (rSkip rfl rfl rfl (rpk (e := false) rfl rfl rfl rfl rfl rfl (rmB rfl rfl rfl rfl rfl (rSkip rfl rfl rfl (rSkip rfl rfl rfl (rSkip rfl rfl rfl (rpk (e := false) rfl rfl rfl rfl rfl rfl (rmB rfl rfl rfl rfl rfl (rSkip rfl rfl rfl (rSkip rfl rfl rfl ?_))))))))))))
  refine rSkip rfl rfl rfl (rpk (e := false) rfl rfl rfl rfl rfl rfl (raB rfl rfl rfl rfl rfl (rNil (qSeq (wRet ?_)))))
  first | (refine finT rfl ?_; unfold An.OK; omega) | (refine finF rfl ?_; unfold An.OK; omega)
def ltS (a b : ByteArray) : Prop := Op.bytesLess a.toList b.toList = true
def lkAt (t : Tb) (i : Nat) : Prop := (t.lk.getD i Lk0).OK t.nx ∧ (0 < i → ltS (t.lk.getD (i - 1) Lk0).nm (t.lk.getD i Lk0).nm)
def Sn.OK (s : Sn) : Prop := (0 ≤ s.cl ∧ s.cl ≤ 255) ∧ (1 ≤ s.st ∧ s.st ≤ 65535) ∧ s.an.OK
def snAt (t : Tb) (i : Nat) : Prop := (t.sn.getD i Sn0).OK ∧ (0 < i → (t.sn.getD (i - 1) Sn0).cl < (t.sn.getD i Sn0).cl)
def Tb.OK (t : Tb) : Prop := (0 ≤ t.tm ∧ t.tm ≤ 1000000000) ∧ (1 ≤ t.nx ∧ t.nx ≤ 1000000) ∧ t.lk.length ≤ 4 ∧ t.sn.length ≤ 6 ∧ (∀ i, i < t.lk.length → lkAt t i) ∧ ∀ i, i < t.sn.length → snAt t i
noncomputable instance (t : Tb) : Decidable t.OK := Classical.propDecidable _
theorem pred_nat (i : Nat) : ((i : Int) - 1).toNat = i - 1 := by omega
theorem p23 (t : Tb) (b n1 n2 : Bool) : Pure En 35 [.agg (t.T b n1 n2)] [.one (.bool (decide t.OK))] := by
 have hl : (t.lk.map (Lk.T b)).length = t.lk.length := List.length_map ..
 have hl2 : (t.sn.map Sn.T).length = t.sn.length := List.length_map ..
 refine Pure.of_wp Try.func35 rfl (Nat.le_of_ble_eq_true rfl) ?_
 refine wSeq (wRegion (rbx (u := .agg [.int _ _, .int _ _, _, _]) rfl rfl rfl rfl rfl rfl rfl (raB rfl rfl rfl rfl rfl (rNil (qSeq (wSeq (wSeq (wRegion (rfa (off := 0) (s := 1) (r := false) rfl rfl rfl (Nat.succ_ne_zero _) rfl rfl rfl ?_)))))))))
 (apply rlc (v := .int _ _) rfl rfl; exact Q0; rfl; rfl; rfl; rfl; rfl; rfl)
 refine rclP (p45 _ _ _) rfl rfl rfl rfl rfl rfl ?_ ?_ <;> intro h1_2
 ·refine rnot (c := true) rfl rfl rfl rfl rfl (rmB rfl rfl rfl rfl rfl (rfa (off := 1) (s := 1) (r := false) rfl rfl rfl (Nat.succ_ne_zero _) rfl rfl rfl ?_))
  (apply rlc (v := .int _ _) rfl rfl; exact Q0; rfl; rfl; rfl; rfl; rfl; rfl)
  refine rclP (p45 _ _ _) rfl rfl rfl rfl rfl rfl ?_ ?_ <;> intro h1_7
  ·refine rnot (c := true) rfl rfl rfl rfl rfl (rpk (e := false) rfl rfl rfl rfl rfl rfl (rmB rfl rfl rfl rfl rfl (rfa (off := 2) (s := 1) (r := false) rfl rfl rfl (Nat.succ_ne_zero _) rfl rfl rfl ?_)))
   (apply rlc (v := .sl _ _ _) rfl rfl; exact Q0; rfl; rfl; rfl; rfl; rfl; rfl)
   refine rll rfl rfl rfl rfl rfl rfl ?_
   refine rgt rfl rfl rfl rfl rfl rfl ?_ ?_ <;> intro h1_14
   ·refine rpk (e := true) rfl rfl rfl rfl rfl rfl (rmB rfl rfl rfl rfl rfl (rSkip rfl rfl rfl (rSkip rfl rfl rfl (rSkip rfl rfl rfl (rSkip rfl rfl rfl (rpk (e := true) rfl rfl rfl rfl rfl rfl (rNil (qSeq (wT rfl (wSeq (wRegion (raB rfl rfl rfl rfl rfl ?_))))))))))))
    refine rNil (qSeq (wRet (qSeqR ?_)))
    (refine finF rfl fun hw => ?_; obtain ⟨w1, w2, w3, w4, w5, w6⟩ := hw; first | contradiction | omega)
   ·refine rpk (e := false) rfl rfl rfl rfl rfl rfl (rmB rfl rfl rfl rfl rfl (rfa (off := 3) (s := 1) (r := false) rfl rfl rfl (Nat.succ_ne_zero _) rfl rfl rfl ?_))
    (apply rlc (v := .sl _ _ _) rfl rfl; exact Q0; rfl; rfl; rfl; rfl; rfl; rfl)
    refine rll rfl rfl rfl rfl rfl rfl ?_
    refine rgt rfl rfl rfl rfl rfl rfl ?_ ?_ <;> intro h1_20
    ·refine rpk (e := true) rfl rfl rfl rfl rfl rfl (rNil (qSeq (wT rfl (wSeq (wRegion (raB rfl rfl rfl rfl rfl (rNil (qSeq (wRet (qSeqR ?_))))))))))
     (refine finF rfl fun hw => ?_; obtain ⟨w1, w2, w3, w4, w5, w6⟩ := hw; first | contradiction | omega)
    ·refine rpk (e := false) rfl rfl rfl rfl rfl rfl (rNil (qSeq (wF rfl (wSkip (qSeq (wSeq (wSeq (wRegion (rfa (off := 2) (s := 1) (r := false) rfl rfl rfl (Nat.succ_ne_zero _) rfl rfl rfl ?_)))))))))
     (apply rlc (v := .sl _ _ _) rfl rfl; exact Q0; rfl; rfl; rfl; rfl; rfl; rfl)
     refine rll rfl rfl rfl rfl rfl rfl (rmI rfl rfl rfl rfl rfl (rNil (qSeq (wBlock (wLoop ?_)))))
     refine loopGo (fun (a : Nat × Nat) => [.unk, .ptr 0 0 0, .unk, .unk, .unk, .unk, .unk, .unk, .unk, .unk, .unk, .unk, .unk, .unk, .unk, .unk, .unk, .unk, .unk, .unk, .unk, .unk, .unk, .unk, .unk, .unk, .unk, .unk, .unk, .unk, .sl false n1 (t.lk.map (Lk.T b)), .int .i64 (t.lk.map (Lk.T b)).length, .int .i64 a.1]) (fun (a : Nat × Nat) => hp [(0, ⟨[[.int .i64 t.tm, .int .i64 t.nx, .sl false n1 (t.lk.map (Lk.T b)), .sl false n2 (t.sn.map Sn.T)]], 4, 35⟩)]) (fun (a : Nat × Nat) => a.2) (fun (a : Nat × Nat) => a.1 ≤ t.lk.length ∧ (∀ j, j < a.1 → lkAt t j) ∧ 1 ≤ a.2) (fun (a : Nat × Nat) => t.lk.length - a.1) (0, 1) ?_ ?_ ?_ ?_ ?_
     ·exact ⟨Nat.zero_le _, all0, Nat.le_refl _⟩
     ·(repeat first | exact LE.nil _ | refine LE.unk _ _ ?_ | refine LE.eq _ _ _ rfl ?_)
     ·(repeat first | exact lessH0 | (refine lessHc ?_ ?_; exact Q34))
     ·exact Nat.le_refl _
     intro ⟨i0, m⟩ hI ih
     dsimp only at hI ⊢
     have hK := hI
     refine lStep (wSeq (wRegion ?_))
     refine rlt rfl rfl rfl rfl rfl rfl ?_ ?_ <;> intro h4_0
     ·refine rNil (qSeq (wSeq (wT rfl (wSkip (qSeq (wSeq (wBlock (wSeq (wRegion (rmI rfl rfl rfl rfl rfl ?_))))))))))
      (apply rixl rfl rfl rfl rfl; exact Q5; (first | rfl | assumption | (first | exact getMap (Lk.T b) Lk0 (by omega) | exact getMap Sn.T Sn0 (by omega))); rfl; rfl; rfl; rfl)
      refine rlir (vs := [.str _, .int _ _, .int _ _, .int _ _, _]) rfl rfl rfl (Nat.le_of_ble_eq_true rfl) rfl rfl rfl rfl (ral rfl rfl rfl rfl rfl rfl (raI rfl rfl rfl rfl rfl ?_))
      (apply rst (u := .agg [.str _, .int _ _, .int _ _, .int _ _, _]) rfl rfl rfl; exact Q0; rfl; rfl; rfl; rfl; rfl; (exact Nat.le_of_ble_eq_true rfl); rfl; rfl; rfl)
      refine rNil (qSeq (wSeq (wDraw [0, 0, 2, 7, 15, 31, 63, 127, 255, 511, 1023, 511, 2559, 8191, 16383, 32767, 511, 66047, 262143, 524287, 1048575] rfl (by decide +kernel) ?_)))
      (apply dlr (vs := [.str _, .int _ _, .int _ _, .int _ _, _]) rfl rfl; exact Q0; rfl; rfl; (exact Nat.le_of_ble_eq_true rfl); rfl; rfl; rfl; rfl)
      refine dfa (off := 1) (s := 1) (r := false) rfl rfl rfl (Nat.succ_ne_zero _) rfl rfl rfl ?_
      (apply dlc (v := .int _ _) rfl rfl; exact Q0; rfl; rfl; rfl; rfl; rfl; rfl)
      refine dclP (p46 (t.lk.getD i0 Lk0) b t.nx (by omega)) rfl rfl rfl rfl rfl rfl ?_ ?_ <;> intro h6_3
      ·refine dnot (c := true) rfl rfl rfl rfl rfl (dmB rfl rfl rfl rfl rfl (dmI rfl rfl rfl rfl rfl ?_))
       refine dgt rfl rfl rfl rfl rfl rfl ?_ ?_ <;> intro h6_7
       ·refine dmB rfl rfl rfl rfl rfl (dfa (off := 2) (s := 1) (r := false) rfl rfl rfl (Nat.succ_ne_zero _) rfl rfl rfl ?_)
        (apply dlc (v := .sl _ _ _) rfl rfl; exact Q0; rfl; rfl; rfl; rfl; rfl; rfl)
        refine dmI rfl rfl rfl rfl rfl (dsubF rfl rfl rfl ?_ ?_ rfl rfl rfl ?_)
        ·exact Q5
        ·exact Q5
        (apply dixl rfl rfl rfl rfl; exact Q5; (first | rfl | assumption | (first | exact getMap (Lk.T b) Lk0 (by omega) | exact getMap Sn.T Sn0 (by omega))); rfl; rfl; rfl; rfl)
        refine dfai (off := 0) (s := 1) (r := false) rfl rfl rfl (Nat.succ_ne_zero _) rfl rfl rfl rfl (dlic (v := .str _) rfl rfl rfl rfl rfl rfl rfl rfl (dfa (off := 0) (s := 1) (r := false) rfl rfl rfl (Nat.succ_ne_zero _) rfl rfl rfl ?_))
        (apply dlc (v := .str _) rfl rfl; exact Q0; rfl; rfl; rfl; rfl; rfl; rfl)
        refine dsge rfl rfl rfl rfl rfl rfl ?_ ?_ <;> intro h6_18
        ·refine dpk (e := true) rfl rfl rfl rfl rfl rfl (dpk (e := true) rfl rfl rfl rfl rfl rfl (dNilR 21 [0, 0, 0, 1, 0, 0, 0, 0, 0, 0, 1, 0, 0, 0, 0, 0, 0, 0, 1, 0, 1] [] rfl rfl (by decide +kernel) trivial ?_))
         refine qSeq (wT rfl (wSeq (wRegion (raB rfl rfl rfl rfl rfl (rNil (qSeq (wRet (qBlockR (qSeqR (qLoopR (qBlockR (qSeqR ?_))))))))))))
         (refine finF rfl fun hw => ?_; obtain ⟨w1, w2, w3, w4, w5, w6⟩ := hw; obtain ⟨v1, v2⟩ := w5 i0 (by omega); first | exact h6_3 v1 | (have v3 := v2 (by omega); unfold ltS at v3; rw [pred_nat, Int.toNat_natCast, v3] at h6_18; cases h6_18))
        ·refine dpk (e := false) rfl rfl rfl rfl rfl rfl (dpk (e := false) rfl rfl rfl rfl rfl rfl (dNilR 21 [0, 0, 0, 1, 0, 0, 0, 0, 0, 0, 1, 0, 0, 0, 0, 0, 0, 0, 1, 0, 1] [] rfl rfl (by decide +kernel) trivial ?_))
         refine qSeq (wF rfl (wSkip (qBlock (qSeq (wRegion (raddF rfl rfl rfl ?_ ?_ rfl rfl rfl ?_))))))
         ·exact Q5
         ·exact Q5
         refine rmI rfl rfl rfl rfl rfl (rNil (qLoop ?_))
         exact wlH (ih (i0 + 1, m + 1) ⟨by dsimp only; omega, allS hI.2.1 ⟨h6_3, fun h0 => by first | omega | (rw [pred_nat] at h6_18; unfold ltS; simpa using h6_18)⟩, by dsimp only; omega⟩ (by dsimp only; omega)) (by (repeat first | exact LE.nil _ | refine LE.unk _ _ ?_ | refine LE.eq _ _ _ rfl ?_)) (by (repeat first | exact lessH0 | (refine lessHc ?_ ?_; exact Q34))) (Nat.le_refl _)
       ·refine dmB rfl rfl rfl rfl rfl (dSkip rfl rfl rfl (dSkip rfl rfl rfl (dSkip rfl rfl rfl (dSkip rfl rfl rfl (dSkip rfl rfl rfl (dSkip rfl rfl rfl (dSkip rfl rfl rfl (dSkip rfl rfl rfl (dSkip rfl rfl rfl (dSkip rfl rfl rfl (dpk (e := false) rfl rfl rfl rfl rfl rfl (dpk (e := false) rfl rfl rfl rfl rfl rfl ?_))))))))))))
        refine dNilR 21 [0, 0, 0, 0, 0, 0, 0, 0, 0, 0, 0, 0, 0, 0, 0, 0, 0, 0, 1, 0, 1] [] rfl rfl (by decide +kernel) trivial ?_
        refine qSeq (wF rfl (wSkip (qBlock (qSeq (wRegion (raddF rfl rfl rfl ?_ ?_ rfl rfl rfl ?_))))))
        ·exact Q5
        ·exact Q5
        refine rmI rfl rfl rfl rfl rfl (rNil (qLoop ?_))
        exact wlH (ih (i0 + 1, m + 1) ⟨by dsimp only; omega, allS hI.2.1 ⟨h6_3, fun h0 => by first | omega | (rw [pred_nat] at h6_18; unfold ltS; simpa using h6_18)⟩, by dsimp only; omega⟩ (by dsimp only; omega)) (by (repeat first | exact LE.nil _ | refine LE.unk _ _ ?_ | refine LE.eq _ _ _ rfl ?_)) (by (repeat first | exact lessH0 | (refine lessHc ?_ ?_; exact Q34))) (Nat.le_refl _)
      ·refine dnot (c := false) rfl rfl rfl rfl rfl (dmB rfl rfl rfl rfl rfl (dSkip rfl rfl rfl (dSkip rfl rfl rfl (dSkip rfl rfl rfl (dSkip rfl rfl rfl (dSkip rfl rfl rfl (dSkip rfl rfl rfl (dSkip rfl rfl rfl (dSkip rfl rfl rfl (dSkip rfl rfl rfl (dSkip rfl rfl rfl (dSkip rfl rfl rfl ?_))))))))))))
       refine dSkip rfl rfl rfl (dSkip rfl rfl rfl (dSkip rfl rfl rfl (dpk (e := true) rfl rfl rfl rfl rfl rfl (dNilR 21 [0, 0, 0, 0, 0, 0, 0, 0, 0, 0, 0, 0, 0, 0, 0, 0, 0, 0, 1, 0, 1] [] rfl rfl (by decide +kernel) trivial ?_))))
       refine qSeq (wT rfl (wSeq (wRegion (raB rfl rfl rfl rfl rfl (rNil (qSeq (wRet (qBlockR (qSeqR (qLoopR (qBlockR (qSeqR ?_))))))))))))
       (refine finF rfl fun hw => ?_; obtain ⟨w1, w2, w3, w4, w5, w6⟩ := hw; obtain ⟨v1, v2⟩ := w5 i0 (by omega); first | exact h6_3 v1 | (have v3 := v2 (by omega); unfold ltS at v3; rw [pred_nat, Int.toNat_natCast, v3] at h6_18; cases h6_18))
     ·refine rNil (qSeq (wSeq (wF rfl (wExit (qSeqX (qLoopX (qBlockX (qSeq (wSeq (wSeq (wRegion (rfa (off := 3) (s := 1) (r := false) rfl rfl rfl (Nat.succ_ne_zero _) rfl rfl rfl ?_))))))))))))
      (apply rlc (v := .sl _ _ _) rfl rfl; exact Q0; rfl; rfl; rfl; rfl; rfl; rfl)
      refine rll rfl rfl rfl rfl rfl rfl (rmI rfl rfl rfl rfl rfl (rNil (qSeq (wBlock (wLoop ?_)))))
      refine loopGo (fun (a : Nat × Nat) => [.unk, .ptr 0 0 0, .unk, .unk, .unk, .unk, .unk, .unk, .unk, .unk, .unk, .unk, .unk, .unk, .unk, .unk, .unk, .unk, .unk, .unk, .unk, .unk, .unk, .unk, .unk, .unk, .unk, .unk, .unk, .unk, .unk, .unk, .unk, .unk, .unk, .unk, .unk, .unk, .unk, .unk, .unk, .unk, .unk, .unk, .unk, .unk, .unk, .unk, .unk, .unk, .unk, .unk, .unk, .unk, .unk, .unk, .unk, .unk, .unk, .unk, .sl false n2 (t.sn.map Sn.T), .int .i64 (t.sn.map Sn.T).length, .int .i64 a.1]) (fun (a : Nat × Nat) => hp [(0, ⟨[[.int .i64 t.tm, .int .i64 t.nx, .sl false n1 (t.lk.map (Lk.T b)), .sl false n2 (t.sn.map Sn.T)]], 4, 35⟩)]) (fun (a : Nat × Nat) => a.2) (fun (a : Nat × Nat) => a.1 ≤ t.sn.length ∧ (∀ j, j < a.1 → snAt t j) ∧ 1 ≤ a.2) (fun (a : Nat × Nat) => t.sn.length - a.1) (0, m) ?_ ?_ ?_ ?_ ?_
      ·exact ⟨Nat.zero_le _, all0, hI.2.2⟩
      ·(repeat first | exact LE.nil _ | refine LE.unk _ _ ?_ | refine LE.eq _ _ _ rfl ?_)
      ·(repeat first | exact lessH0 | (refine lessHc ?_ ?_; exact Q34))
      ·exact Nat.le_refl _
      intro ⟨i, m⟩ hI ih
      dsimp only at hI ⊢
      refine lStep (wSeq (wRegion ?_))
      refine rlt rfl rfl rfl rfl rfl rfl ?_ ?_ <;> intro h10_0
      ·refine rNil (qSeq (wSeq (wT rfl (wSkip (qSeq (wSeq (wBlock (wSeq (wRegion (rmI rfl rfl rfl rfl rfl ?_))))))))))
       (apply rixl rfl rfl rfl rfl; exact Q5; (first | rfl | assumption | (first | exact getMap (Lk.T b) Lk0 (by omega) | exact getMap Sn.T Sn0 (by omega))); rfl; rfl; rfl; rfl)
       refine rlir (vs := [.int _ _, .int _ _, .int _ _, .int _ _, .int _ _, .int _ _]) rfl rfl rfl (Nat.le_of_ble_eq_true rfl) rfl rfl rfl rfl (ral rfl rfl rfl rfl rfl rfl (raI rfl rfl rfl rfl rfl ?_))
       (apply rst (u := .agg [.int _ _, .int _ _, .int _ _, .int _ _, .int _ _, .int _ _]) rfl rfl rfl; exact Q0; rfl; rfl; rfl; rfl; rfl; (exact Nat.le_of_ble_eq_true rfl); rfl; rfl; rfl)
       refine rNil (qSeq (wSeq (wDraw [0, 1, 3, 7, 15, 31, 63, 127, 255, 511, 1023, 2047, 4095, 8191, 16383, 32767, 65535, 131071, 262143, 524287, 1048575, 2097151, 1048575, 5242879, 16777215, 33554431, 67108863, 1048575, 135266303, 536870911, 1073741823, 2147483647] rfl (by decide +kernel) ?_)))
       refine dfa (off := 0) (s := 1) (r := false) rfl rfl rfl (Nat.succ_ne_zero _) rfl rfl rfl ?_
       (apply dlc (v := .int _ _) rfl rfl; exact Q0; rfl; rfl; rfl; rfl; rfl; rfl)
       refine dclP (p45 _ _ _) rfl rfl rfl rfl rfl rfl ?_ ?_ <;> intro h12_2
       ·refine dnot (c := true) rfl rfl rfl rfl rfl (dmB rfl rfl rfl rfl rfl (dfa (off := 1) (s := 1) (r := false) rfl rfl rfl (Nat.succ_ne_zero _) rfl rfl rfl ?_))
        (apply dlc (v := .int _ _) rfl rfl; exact Q0; rfl; rfl; rfl; rfl; rfl; rfl)
        refine dclP (p45 _ _ _) rfl rfl rfl rfl rfl rfl ?_ ?_ <;> intro h12_7
        ·refine dnot (c := true) rfl rfl rfl rfl rfl (dpk (e := false) rfl rfl rfl rfl rfl rfl (dmB rfl rfl rfl rfl rfl (dfa (off := 2) (s := 4) (r := true) rfl rfl rfl (Nat.succ_ne_zero _) rfl rfl rfl ?_)))
         (apply dlr (vs := [.int _ _, .int _ _, .int _ _, .int _ _]) rfl rfl; exact Q0; rfl; rfl; (exact Nat.le_of_ble_eq_true rfl); rfl; rfl; rfl; rfl)
         refine dclP (p47 (t.sn.getD i Sn0).an) rfl rfl rfl rfl rfl rfl ?_ ?_ <;> intro h12_13
         ·refine dnot (c := true) rfl rfl rfl rfl rfl (dpk (e := false) rfl rfl rfl rfl rfl rfl (dmB rfl rfl rfl rfl rfl (dmI rfl rfl rfl rfl rfl ?_)))
          refine dgt rfl rfl rfl rfl rfl rfl ?_ ?_ <;> intro h12_18
          ·refine dmB rfl rfl rfl rfl rfl (dfa (off := 3) (s := 1) (r := false) rfl rfl rfl (Nat.succ_ne_zero _) rfl rfl rfl ?_)
           (apply dlc (v := .sl _ _ _) rfl rfl; exact Q0; rfl; rfl; rfl; rfl; rfl; rfl)
           refine dmI rfl rfl rfl rfl rfl (dsubF rfl rfl rfl ?_ ?_ rfl rfl rfl ?_)
           ·exact Q5
           ·exact Q5
           (apply dixl rfl rfl rfl rfl; exact Q5; (first | rfl | assumption | (first | exact getMap (Lk.T b) Lk0 (by omega) | exact getMap Sn.T Sn0 (by omega))); rfl; rfl; rfl; rfl)
           refine dfai (off := 0) (s := 1) (r := false) rfl rfl rfl (Nat.succ_ne_zero _) rfl rfl rfl rfl (dlic (v := .int _ _) rfl rfl rfl rfl rfl rfl rfl rfl (dfa (off := 0) (s := 1) (r := false) rfl rfl rfl (Nat.succ_ne_zero _) rfl rfl rfl ?_))
           (apply dlc (v := .int _ _) rfl rfl; exact Q0; rfl; rfl; rfl; rfl; rfl; rfl)
           refine dge rfl rfl rfl rfl rfl rfl ?_ ?_ <;> intro h12_29
           ·refine dpk (e := true) rfl rfl rfl rfl rfl rfl (dpk (e := true) rfl rfl rfl rfl rfl rfl (dNilR 32 [0, 0, 0, 1, 0, 0, 0, 0, 0, 0, 1, 0, 0, 0, 0, 0, 0, 0, 0, 1, 0, 0, 0, 0, 0, 1, 0, 0, 0, 0, 1, 0] [] rfl rfl (by decide +kernel) trivial ?_))
            refine qSeq (wT rfl (wSeq (wRegion (raB rfl rfl rfl rfl rfl (rNil (qSeq (wRet (qBlockR (qSeqR (qLoopR (qBlockR (qSeqR ?_))))))))))))
            (refine finF rfl fun hw => ?_; obtain ⟨w1, w2, w3, w4, w5, w6⟩ := hw; obtain ⟨⟨v1, v2, v3⟩, v4⟩ := w6 i (by omega); first | exact h12_2 v1 | exact h12_7 v2 | exact h12_13 v3 | (have v5 := v4 (by omega); rw [pred_nat] at h12_29; exact Int.not_le.mpr v5 h12_29))
           ·refine dpk (e := false) rfl rfl rfl rfl rfl rfl (dpk (e := false) rfl rfl rfl rfl rfl rfl (dNilR 32 [0, 0, 0, 1, 0, 0, 0, 0, 0, 0, 1, 0, 0, 0, 0, 0, 0, 0, 0, 1, 0, 0, 0, 0, 0, 1, 0, 0, 0, 0, 1, 0] [] rfl rfl (by decide +kernel) trivial ?_))
            refine qSeq (wF rfl (wSkip (qBlock (qSeq (wRegion (raddF rfl rfl rfl ?_ ?_ rfl rfl rfl ?_))))))
            ·exact Q5
            ·exact Q5
            refine rmI rfl rfl rfl rfl rfl (rNil (qLoop ?_))
            exact wlH (ih (i + 1, m + 1) ⟨by dsimp only; omega, allS hI.2.1 ⟨⟨h12_2, h12_7, h12_13⟩, fun h0 => by first | omega | (rw [pred_nat] at h12_29; exact Int.not_le.mp h12_29)⟩, by dsimp only; omega⟩ (by dsimp only; omega)) (by (repeat first | exact LE.nil _ | refine LE.unk _ _ ?_ | refine LE.eq _ _ _ rfl ?_)) (by (repeat first | exact lessH0 | (refine lessHc ?_ ?_; exact Q34))) (Nat.le_refl _)
          ·refine dmB rfl rfl rfl rfl rfl (dSkip rfl rfl rfl (dSkip rfl rfl rfl (dSkip rfl rfl rfl (dSkip rfl rfl rfl (dSkip rfl rfl rfl (dSkip rfl rfl rfl (dSkip rfl rfl rfl (dSkip rfl rfl rfl (dSkip rfl rfl rfl (dSkip rfl rfl rfl (dpk (e := false) rfl rfl rfl rfl rfl rfl (dpk (e := false) rfl rfl rfl rfl rfl rfl ?_))))))))))))
           refine dNilR 32 [0, 0, 0, 0, 0, 0, 0, 0, 0, 0, 0, 0, 0, 0, 0, 0, 0, 0, 0, 1, 0, 0, 0, 0, 0, 1, 0, 0, 0, 0, 1, 0] [] rfl rfl (by decide +kernel) trivial ?_
           refine qSeq (wF rfl (wSkip (qBlock (qSeq (wRegion (raddF rfl rfl rfl ?_ ?_ rfl rfl rfl ?_))))))
           ·exact Q5
           ·exact Q5
           refine rmI rfl rfl rfl rfl rfl (rNil (qLoop ?_))
           exact wlH (ih (i + 1, m + 1) ⟨by dsimp only; omega, allS hI.2.1 ⟨⟨h12_2, h12_7, h12_13⟩, fun h0 => by first | omega | (rw [pred_nat] at h12_29; exact Int.not_le.mp h12_29)⟩, by dsimp only; omega⟩ (by dsimp only; omega)) (by (repeat first | exact LE.nil _ | refine LE.unk _ _ ?_ | refine LE.eq _ _ _ rfl ?_)) (by (repeat first | exact lessH0 | (refine lessHc ?_ ?_; exact Q34))) (Nat.le_refl _)
         ·refine dnot (c := false) rfl rfl rfl rfl rfl (dpk (e := true) rfl rfl rfl rfl rfl rfl (dmB rfl rfl rfl rfl rfl (dSkip rfl rfl rfl (dSkip rfl rfl rfl (dSkip rfl rfl rfl (dSkip rfl rfl rfl (dSkip rfl rfl rfl (dSkip rfl rfl rfl (dSkip rfl rfl rfl (dSkip rfl rfl rfl (dSkip rfl rfl rfl (dSkip rfl rfl rfl ?_))))))))))))
          refine dSkip rfl rfl rfl (dSkip rfl rfl rfl (dSkip rfl rfl rfl (dSkip rfl rfl rfl (dpk (e := true) rfl rfl rfl rfl rfl rfl (dNilR 32 [0, 0, 0, 0, 0, 0, 0, 0, 0, 0, 0, 0, 0, 0, 0, 0, 0, 0, 0, 1, 0, 0, 0, 0, 0, 1, 0, 0, 0, 0, 1, 0] [] rfl rfl (by decide +kernel) trivial ?_)))))
          refine qSeq (wT rfl (wSeq (wRegion (raB rfl rfl rfl rfl rfl (rNil (qSeq (wRet (qBlockR (qSeqR (qLoopR (qBlockR (qSeqR ?_))))))))))))
          (refine finF rfl fun hw => ?_; obtain ⟨w1, w2, w3, w4, w5, w6⟩ := hw; obtain ⟨⟨v1, v2, v3⟩, v4⟩ := w6 i (by omega); first | exact h12_2 v1 | exact h12_7 v2 | exact h12_13 v3 | (have v5 := v4 (by omega); rw [pred_nat] at h12_29; exact Int.not_le.mpr v5 h12_29))
        ·refine dnot (c := false) rfl rfl rfl rfl rfl (dpk (e := true) rfl rfl rfl rfl rfl rfl (dmB rfl rfl rfl rfl rfl (dSkip rfl rfl rfl (dSkip rfl rfl rfl (dSkip rfl rfl rfl (dSkip rfl rfl rfl (dpk (e := true) rfl rfl rfl rfl rfl rfl (dmB rfl rfl rfl rfl rfl (dSkip rfl rfl rfl (dSkip rfl rfl rfl (dSkip rfl rfl rfl (dSkip rfl rfl rfl ?_))))))))))))
         refine dSkip rfl rfl rfl (dSkip rfl rfl rfl (dSkip rfl rfl rfl (dSkip rfl rfl rfl (dSkip rfl rfl rfl (dSkip rfl rfl rfl (dSkip rfl rfl rfl (dSkip rfl rfl rfl (dSkip rfl rfl rfl (dSkip rfl rfl rfl (dpk (e := true) rfl rfl rfl rfl rfl rfl (dNilR 32 [0, 0, 0, 0, 0, 0, 0, 0, 0, 0, 0, 0, 0, 0, 0, 0, 0, 0, 0, 0, 0, 0, 0, 0, 0, 1, 0, 0, 0, 0, 1, 0] [] rfl rfl (by decide +kernel) trivial ?_)))))))))))
         refine qSeq (wT rfl (wSeq (wRegion (raB rfl rfl rfl rfl rfl (rNil (qSeq (wRet (qBlockR (qSeqR (qLoopR (qBlockR (qSeqR ?_))))))))))))
         (refine finF rfl fun hw => ?_; obtain ⟨w1, w2, w3, w4, w5, w6⟩ := hw; obtain ⟨⟨v1, v2, v3⟩, v4⟩ := w6 i (by omega); first | exact h12_2 v1 | exact h12_7 v2 | exact h12_13 v3 | (have v5 := v4 (by omega); rw [pred_nat] at h12_29; exact Int.not_le.mpr v5 h12_29))
       ·refine dnot (c := false) rfl rfl rfl rfl rfl (dmB rfl rfl rfl rfl rfl (dSkip rfl rfl rfl (dSkip rfl rfl rfl (dSkip rfl rfl rfl (dSkip rfl rfl rfl (dpk (e := true) rfl rfl rfl rfl rfl rfl (dmB rfl rfl rfl rfl rfl (dSkip rfl rfl rfl (dSkip rfl rfl rfl (dSkip rfl rfl rfl (dSkip rfl rfl rfl (dpk (e := true) rfl rfl rfl rfl rfl rfl ?_))))))))))))
        refine dmB rfl rfl rfl rfl rfl (dSkip rfl rfl rfl (dSkip rfl rfl rfl (dSkip rfl rfl rfl (dSkip rfl rfl rfl (dSkip rfl rfl rfl (dSkip rfl rfl rfl (dSkip rfl rfl rfl (dSkip rfl rfl rfl (dSkip rfl rfl rfl (dSkip rfl rfl rfl (dSkip rfl rfl rfl (dSkip rfl rfl rfl ?_))))))))))))
        refine dSkip rfl rfl rfl (dSkip rfl rfl rfl (dpk (e := true) rfl rfl rfl rfl rfl rfl (dNilR 32 [0, 0, 0, 0, 0, 0, 0, 0, 0, 0, 0, 0, 0, 0, 0, 0, 0, 0, 0, 0, 0, 0, 0, 0, 0, 0, 0, 0, 0, 0, 1, 0] [] rfl rfl (by decide +kernel) trivial ?_)))
        refine qSeq (wT rfl (wSeq (wRegion (raB rfl rfl rfl rfl rfl (rNil (qSeq (wRet (qBlockR (qSeqR (qLoopR (qBlockR (qSeqR ?_))))))))))))
        (refine finF rfl fun hw => ?_; obtain ⟨w1, w2, w3, w4, w5, w6⟩ := hw; obtain ⟨⟨v1, v2, v3⟩, v4⟩ := w6 i (by omega); first | exact h12_2 v1 | exact h12_7 v2 | exact h12_13 v3 | (have v5 := v4 (by omega); rw [pred_nat] at h12_29; exact Int.not_le.mpr v5 h12_29))
      ·refine rNil (qSeq (wSeq (wF rfl (wExit (qSeqX (qLoopX (qBlockX (qSeq (wSeq (wRegion (raB rfl rfl rfl rfl rfl (rNil ?_))))))))))))
       refine qSeq (wRet ?_)
       exact finT rfl ⟨h1_2, h1_7, by omega, by omega, fun j hj => hK.2.1 j (by omega), fun j hj => hI.2.1 j (by omega)⟩
  ·refine rnot (c := false) rfl rfl rfl rfl rfl (rpk (e := true) rfl rfl rfl rfl rfl rfl (rmB rfl rfl rfl rfl rfl (rSkip rfl rfl rfl (rSkip rfl rfl rfl (rSkip rfl rfl rfl (rSkip rfl rfl rfl (rpk (e := true) rfl rfl rfl rfl rfl rfl (rmB rfl rfl rfl rfl rfl (rSkip rfl rfl rfl (rSkip rfl rfl rfl (rSkip rfl rfl rfl (rSkip rfl rfl rfl ?_))))))))))))
   refine rpk (e := true) rfl rfl rfl rfl rfl rfl (rNil (qSeq (wT rfl (wSeq (wRegion (raB rfl rfl rfl rfl rfl (rNil (qSeq (wRet (qSeqR ?_))))))))))
   (refine finF rfl fun hw => ?_; obtain ⟨w1, w2, w3, w4, w5, w6⟩ := hw; first | contradiction | omega)
 ·refine rnot (c := false) rfl rfl rfl rfl rfl (rmB rfl rfl rfl rfl rfl (rSkip rfl rfl rfl (rSkip rfl rfl rfl (rSkip rfl rfl rfl (rSkip rfl rfl rfl (rpk (e := true) rfl rfl rfl rfl rfl rfl (rmB rfl rfl rfl rfl rfl (rSkip rfl rfl rfl (rSkip rfl rfl rfl (rSkip rfl rfl rfl (rSkip rfl rfl rfl (rpk (e := true) rfl rfl rfl rfl rfl rfl ?_))))))))))))
  refine rmB rfl rfl rfl rfl rfl (rSkip rfl rfl rfl (rSkip rfl rfl rfl (rSkip rfl rfl rfl (rSkip rfl rfl rfl (rpk (e := true) rfl rfl rfl rfl rfl rfl (rNil (qSeq (wT rfl (wSeq (wRegion (raB rfl rfl rfl rfl rfl (rNil ?_))))))))))))
  refine qSeq (wRet (qSeqR ?_))
  (refine finF rfl fun hw => ?_; obtain ⟨w1, w2, w3, w4, w5, w6⟩ := hw; first | contradiction | omega)
end Go.Proofs.Ytknnniaoboaghaa
namespace Go.V
open Go
set_option linter.unusedVariables false
set_option linter.unusedSimpArgs false
def V.data : V → Bool
  | .bool _ | .int _ _ | .str _ | .nilp | .nilf | .nsl | .sl _ _ _ => true
  | _ => false
def V.flat : V → Bool
  | .bool _ | .int _ _ | .str _ | .nilp | .nilf | .nsl | .view _ _ _ | .ptr _ _ _ | .unk => true
  | _ => false
theorem VR.data {c c' : Cx} {x : V} {v : Value} (hx : x.data = true) (h : VR c x v) (hi : ∀ b, c.I b → c'.I b) (hB : c'.B = c.B) (hw : c'.w = c.w) : VR c' x v := by
  cases h with
  | bool b => exact .bool b
  | int k n => exact .int k n
  | str s => exact .str s
  | nilp => exact .nilp
  | nilf => exact .nilf
  | nsl => exact .nsl
  | sl fr nn es v h => exact .sl fr nn es v ((h.mono (fun b hb => ⟨hi b hb.1, fun e => by rw [hB]; exact hb.2 e⟩) (fun b _ => by rw [hw])))
  | _ => cases hx
theorem VR.flat {c c' : Cx} {x : V} {v : Value} (hx : x.flat = true) (h : VR c x v) (hr : ∀ id p, c.ρ id = some p → c'.ρ id = some p) : VR c' x v := by
  cases h with
  | bool b => exact .bool b
  | int k n => exact .int k n
  | str s => exact .str s
  | nilp => exact .nilp
  | nilf => exact .nilf
  | nsl => exact .nsl
  | view id off len p o cap hp ho hl hm => exact .view id off len p o cap (hr _ _ hp) ho hl hm
  | ptr id i j p hp hm => exact .ptr id i j p (hr _ _ hp) hm
  | unk v => exact .unk v
  | _ => cases hx
theorem op_fresh {E : Env} {o : Oper} {t : Nat → V} {h : Heap} {n n' : Nat} {fo : Operand} {args : Array Operand} {tys : Array TypeId} {f : FuncId} {vs : List V} {v : V} {wr : List (Nat × Option Blk)}
    (ho : o.op = .call { callee := .value fo, args := args, argTypes := tys }) (hc : E.eval t fo = .clo f []) (hv : args.toList.map (E.eval t) = vs) (hop : Open E f vs (fun _ => none) n v wr n')
    (hda : ∀ x ∈ vs, x.data = true) (hfl : v.flat = true) (hwf : ∀ id b, app wr (fun _ => none) id = some b → ∀ e ∈ b.es, ∀ x ∈ e, x.flat = true) :
    OpOK E o t h n [] false v wr n' := by
  intro c a h2 K Q hd hx hg hrd _ hf hK
  obtain ⟨cs, hrun, hcl, hcr⟩ := run_call ho hc hx (by unfold Open at hop; exact hop.1.1)
  have hcs : cs = #[] := Array.eq_empty_of_size_eq_zero (by simpa using hcl.symm)
  subst hcs
  simp only [Array.append_empty] at hrun
  unfold Oper.wp
  rw [hrun, Oper.upon_enter]
  let c0 : Cx := { ρ := fun _ => none, I := fun b => b < c.w.heap.size, B := c.B, w := c.w }
  have hg0 : Good E c0 (fun _ => none) := by
    refine ⟨fun _ _ h => (nomatch h), fun _ _ _ _ _ _ h => (nomatch h), fun _ h => h, fun _ _ _ h => (nomatch h), fun _ _ h => (nomatch h), hg.base, fun g cs hgc => ?_⟩
    have := hg.glob g cs hgc
    cases this with
    | iptr _ _ b off rd hI hrd' hsub =>
      exact .iptr false cs g 0 rd ⟨hg.imm _ hI.1, by simp⟩ hrd' fun j x hj => (hsub j x hj).mono (fun b hb => ⟨hg.imm _ hb.1, by simp⟩) fun _ _ => rfl
  unfold Open at hop
  refine Calls.mono (hop.2 c0 (args.map a.eval) hg0 (fun _ _ => rfl) (by rw [← hv]; simp) (fun i x u h1 h3 => ?_)) ?_
  · rw [← hv, List.getElem?_map] at h1
    rw [Array.getElem?_map] at h3
    cases hx' : args[i]? with
    | none => simp [hx'] at h3
    | some y =>
      have hx2 : args.toList[i]? = some y := by simpa using hx'
      simp only [hx2, Option.map_some, Option.some.injEq] at h1
      simp only [hx', Option.map_some, Option.some.injEq] at h3
      subst h1; subst h3
      exact VR.data (hda _ (by rw [← hv]; exact List.mem_map.2 ⟨y, List.mem_of_getElem? hx2, rfl⟩)) (hx y (by simp [ho, Op.operands, Call.operands]; exact .inr (Array.mem_of_getElem? hx'))) (fun b hb => hg.imm b hb) rfl rfl
  · rintro e w' ⟨u, c', rfl, rfl, hx2, hg2, hd2, hv2⟩
    have hdom : ∀ id p, c'.ρ id = some p → n ≤ id ∧ id < n' := fun id p hp => by
      rcases hd2 id (by rw [hp]; nofun) with h1 | h1
      · exact absurd rfl h1
      · exact h1
    have hsz : c.w.heap.size ≤ c'.w.heap.size := hx2.below.size
    have hBB : c'.B = c.B := hx2.B
    have hnew : ∀ id b p, app wr (fun _ => none) id = some b → c'.ρ id = some p → c.w.heap.size ≤ p.b := fun id b p h1 h3 => by
      rcases Nat.lt_or_ge p.b c.w.heap.size with h4 | h4
      · exact absurd (hx2.imm _ h4) (hg2.sep id b p h1 h3)
      · exact h4
    let c2 : Cx := { ρ := fun id => (c'.ρ id).or (c.ρ id), I := fun b => c.I b, B := c.B, w := c'.w }
    have r1 : ∀ id p, c.ρ id = some p → c2.ρ id = some p := fun id p hp => by
      show (c'.ρ id).or (c.ρ id) = some p
      cases hq : c'.ρ id with
      | none => simpa using hp
      | some q =>
        have := hdom id q hq
        rw [hf id this.1 this.2] at hp; cases hp
    have r2 : ∀ id p, c'.ρ id = some p → c2.ρ id = some p := fun id p hp => by
      show (c'.ρ id).or (c.ρ id) = some p
      rw [hp]; rfl
    have keep : ∀ b, b < c.w.heap.size → c'.w.heap[b]? = c.w.heap[b]? := fun b hb => hx2.keep b hb
    have hx3 : Ext c c2 := ⟨rfl, r1, fun b h => h, fun b hb => keep b (hg.imm b hb), hx2.below⟩
    have hlive : ∀ id b, app wr h2 id = some b → (∃ p, app wr (fun _ => none) id = some b ∧ c'.ρ id = some p) ∨ (id ∉ wr.map (·.1) ∧ h2 id = some b ∧ ∃ p, c.ρ id = some p) := fun id b hb => by
      by_cases hm : id ∈ wr.map (·.1)
      · rw [app_mem wr h2 (fun _ => none) id hm] at hb
        obtain ⟨p, h1, _⟩ := hg2.blk id b hb
        exact .inl ⟨p, hb, h1⟩
      · rw [app_ne wr h2 id hm] at hb
        obtain ⟨p, h1, _⟩ := hg.blk id b hb
        exact .inr ⟨hm, hb, p, h1⟩
    refine hK c2 u hx3 ?_ ?_ (VR.flat hfl hv2 r2)
    · refine ⟨fun id b hb => ?_, fun id id' b b' p p' hb hb' hp hp' hpp => ?_, fun b hb => Nat.lt_of_lt_of_le (hg.imm b hb) hsz, fun id b p hb hp hI => ?_, fun id p hp => ?_, Nat.le_trans hg.base hsz, fun g cs hgc => (hg.glob g cs hgc).mono hx3⟩
      · rcases hlive id b hb with ⟨p, h1, h3⟩ | ⟨_, h1, p, h3⟩
        · obtain ⟨q, k1, k2, k3⟩ := hg2.blk id b h1
          refine ⟨q, r2 _ _ k1, fun hm => ?_, fun hm => ?_⟩
          rotate_left
          · obtain ⟨es, j1, j2, j3⟩ := k3 hm
            refine ⟨es, j1, j2, fun i row hr => ?_⟩
            obtain ⟨e, k, x, m1, m2, m3, m4, m5⟩ := j3 i row hr
            have hfr := hwf id b h1 row (List.mem_of_getElem? hr)
            exact ⟨e, k, x, m1, m2, m3, VR.flat (hfr k (by rw [m2]; simp)) m4 r2, VR.flat (hfr x (by rw [m2]; simp)) m5 r2⟩
          obtain ⟨cells, fz, j2, j3, j4, j5, j6, j7, j8⟩ := k2 hm
          refine ⟨cells, fz, j2, j3, j4, j5, j6, j7, fun i j x hx => ?_⟩
          obtain ⟨w, m1, m2, m3⟩ := j8 i j x hx
          refine ⟨w, m1, VR.flat ?_ m2 r2, m3⟩
          unfold get2 at hx
          cases he : b.es[i]? with
          | none => simp [he] at hx
          | some e =>
            simp only [he, Option.bind_some] at hx
            exact hwf id b h1 e (List.mem_of_getElem? he) x (List.mem_of_getElem? hx)
        · obtain ⟨q, k1, k2, k3⟩ := hg.blk id b h1
          have hk := keep q.b (hg.own id q k1).2
          exact ⟨q, r1 _ _ k1, fun hm => (k2 hm).mono hx3 hk, fun hm => (k3 hm).mono hx3 hk⟩
      · have key : ∀ id b p, app wr h2 id = some b → c2.ρ id = some p → (app wr (fun _ => none) id = some b ∧ c'.ρ id = some p ∧ c.w.heap.size ≤ p.b) ∨ (h2 id = some b ∧ c.ρ id = some p ∧ p.b < c.w.heap.size) := fun id b p hb hp => by
          rcases hlive id b hb with ⟨q, h1, h3⟩ | ⟨_, h1, q, h3⟩
          · have := r2 _ _ h3
            rw [this] at hp; obtain rfl := Option.some.inj hp
            exact .inl ⟨h1, h3, hnew _ _ _ h1 h3⟩
          · have := r1 _ _ h3
            rw [this] at hp; obtain rfl := Option.some.inj hp
            exact .inr ⟨h1, h3, (hg.own _ _ h3).2⟩
        rcases key id b p hb hp with ⟨a1, a2, a3⟩ | ⟨a1, a2, a3⟩ <;> rcases key id' b' p' hb' hp' with ⟨b1, b2, b3⟩ | ⟨b1, b2, b3⟩
        · exact hg2.inj id id' b b' p p' a1 b1 a2 b2 hpp
        · omega
        · omega
        · exact hg.inj id id' b b' p p' a1 b1 a2 b2 hpp
      · rcases hlive id b hb with ⟨q, h1, h3⟩ | ⟨_, h1, q, h3⟩
        · have := r2 _ _ h3
          rw [this] at hp; obtain rfl := Option.some.inj hp
          have := hnew _ _ _ h1 h3
          have := hg.imm _ hI
          omega
        · have := r1 _ _ h3
          rw [this] at hp; obtain rfl := Option.some.inj hp
          exact hg.sep id b _ h1 h3 hI
      · have hp2 : (c'.ρ id).or (c.ρ id) = some p := hp
        cases hq : c'.ρ id with
        | some q =>
          rw [hq] at hp2
          obtain rfl : q = p := by simpa using hp2
          have := hg2.own id q hq
          rw [hBB] at this; exact this
        | none =>
          rw [hq] at hp2
          have := hg.own id p (by simpa using hp2)
          exact ⟨this.1, Nat.lt_of_lt_of_le this.2 hsz⟩
    · intro id hid
      have hid2 : (c'.ρ id).or (c.ρ id) ≠ none := hid
      cases hq : c'.ρ id with
      | some q => exact .inr (hdom id q hq)
      | none => rw [hq] at hid2; exact .inl (by simpa using hid2)
section
variable {E : Env} {sz : Nat} {ops : Array Oper} {bl : List Nat} {pre : List Ef} {o : Oper} {l : List Oper} {t : Nat → V} {h : Heap} {n : Nat} {R : (Nat → V) → Heap → Nat → Prop} {v : V} {z : Operand}
theorem dfr {tys : Array TypeId} {f : FuncId} {args : Array Operand} {vs : List V} {wr : List (Nat × Option Blk)} {n1 : Nat} (hop : Open E f vs (fun _ => none) n v wr n1) (ho : o.op = .call { callee := .value z, args := args, argTypes := tys }) (hc : E.eval t z = .clo f []) (hv : args.toList.map (E.eval t) = vs)
    (hda : ∀ x ∈ vs, x.data = true) (hfl : v.flat = true) (hwf : ∀ id b, app wr (fun _ => none) id = some b → ∀ e ∈ b.es, ∀ x ∈ e, x.flat = true) (hne : wr ≠ []) {d : Nat} (hdd : o.dst = some d) (hd : Nat.blt d sz = true) (hg : guardV ops t o = some true) (w : WD E sz ops bl (⟨false, v, [], false, wr, n, n1⟩ :: pre) l (upd t d v) (app wr h) n1 R) : WD E sz ops bl pre (o :: l) t h n R := dOpD (op_fresh ho hc hv hop hda hfl hwf) hdd hd hg hop.le (fun h => absurd h hne) w
end
end Go.V
namespace Go.V
open Go
set_option linter.unusedVariables false
theorem Open.fresh {E : Env} {f : FuncId} {args : List V} {h : Heap} {n m : Nat} {v : V} {wr : List (Nat × Option Blk)} (hc : callP E.P f = true) (hn : n ≤ m) (H : (∀ i, n ≤ i → h i = none) → Open E f args h n v wr m) : Open E f args h n v wr m := by
  by_cases hz : ∀ i, n ≤ i → h i = none
  · exact H hz
  · unfold Open
    refine ⟨⟨hc, hn⟩, fun c vs hg hfr _ _ => absurd (fun i hi => ?_) hz⟩
    cases hb : h i with
    | none => rfl
    | some b =>
      obtain ⟨p, hp, _⟩ := hg.blk i b hb
      rw [hfr i hi] at hp; cases hp
theorem lessApp {h g : Heap} {wr : List (Nat × Option Blk)} {n : Nat} (hz : ∀ i, n ≤ i → h i = none) (h1 : ∀ j ∈ wr.map (·.1), g j = app wr h j) (h2 : ∀ j, j < n → j ∉ wr.map (·.1) → g j = h j) : LessH (app wr h) g := fun j b hj => by
  by_cases hm : j ∈ wr.map (·.1)
  · rw [h1 j hm]; exact hj
  · rw [app_ne wr h j hm] at hj
    rcases Nat.lt_or_ge j n with hl | hl
    · rw [h2 j hl hm]; exact hj
    · rw [hz j hl] at hj; cases hj
end Go.V
namespace Go.V
open Go
set_option linter.unusedVariables false
set_option linter.unusedSimpArgs false
variable {E : Env} {o : Oper} {t : Nat → V} {h : Heap} {n : Nat}
def Cx.mark (c : Cx) (b m : Nat) : Cx := { c with w := c.w.freeze ⟨b, m, none⟩ 1 }
variable {sz : Nat} {ops : Array Oper} {l : List Oper} {bl : List Nat} {pre : List Ef} {R : (Nat → V) → Heap → Nat → Prop} {ty e : TypeId} {x : Operand}
end Go.V
namespace Go.V
open Go
set_option linter.unusedVariables false
set_option linter.unusedSimpArgs false
def V.flat2 : V → Bool
  | .agg cs => cs.all V.flat
  | x => x.flat
def V.flat3 : V → Bool
  | .tup vs => vs.all V.flat2
  | x => x.flat2
theorem VR.flat2 {c c' : Cx} {x : V} {v : Value} (hx : x.flat2 = true) (h : VR c x v) (hr : ∀ id p, c.ρ id = some p → c'.ρ id = some p) : VR c' x v := by
  cases h with
  | agg cs vs hl h =>
    refine .agg cs vs hl fun i x u h1 h2 => VR.flat ?_ (h i x u h1 h2) hr
    unfold V.flat2 at hx
    exact List.all_eq_true.1 hx x (List.mem_of_getElem? h1)
  | bool b => exact .bool b
  | int k n => exact .int k n
  | str s => exact .str s
  | nilp => exact .nilp
  | nilf => exact .nilf
  | nsl => exact .nsl
  | view id off len p o cap hp ho hl hm => exact .view id off len p o cap (hr _ _ hp) ho hl hm
  | ptr id i j p hp hm => exact .ptr id i j p (hr _ _ hp) hm
  | unk v => exact .unk v
  | _ => cases hx
theorem VR.flat3 {c c' : Cx} {x : V} {v : Value} (hx : x.flat3 = true) (h : VR c x v) (hr : ∀ id p, c.ρ id = some p → c'.ρ id = some p) : VR c' x v := by
  by_cases ht : ∃ vs, x = .tup vs
  · obtain ⟨vs, rfl⟩ := ht
    cases h with
    | tup _ us hl h =>
      refine .tup vs us hl fun i x u h1 h2 => VR.flat2 ?_ (h i x u h1 h2) hr
      unfold V.flat3 at hx
      exact List.all_eq_true.1 hx x (List.mem_of_getElem? h1)
  · refine VR.flat2 ?_ h hr
    unfold V.flat3 at hx
    cases x <;> first | exact hx | exact absurd ⟨_, rfl⟩ ht
theorem op_freshS {E : Env} {o : Oper} {t : Nat → V} {h : Heap} {n n' : Nat} {fo : Operand} {args : Array Operand} {tys : Array TypeId} {f : FuncId} {vs : List V} {az : List A} {ids : List Nat} {v : V} {wr : List (Nat × Option Blk)}
    (ho : o.op = .call { callee := .value fo, args := args, argTypes := tys }) (hc : E.eval t fo = .clo f []) (hv : args.toList.map (E.eval t) = vs) (hs : SnapL h ids false vs az) (hop : Open E f (az.map (A.toV false)) (fun _ => none) n v wr n')
    (hfl : v.flat3 = true) (hwf : ∀ id b, app wr (fun _ => none) id = some b → ∀ e ∈ b.es, ∀ x ∈ e, x.flat = true) :
    OpOK E o t h n ids false v wr n' := by
  intro c a h2 K Q hd hx hg hrd _ hf hK
  obtain ⟨cs, hrun, hcl, hcr⟩ := run_call ho hc hx (by unfold Open at hop; exact hop.1.1)
  have hcs : cs = #[] := Array.eq_empty_of_size_eq_zero (by simpa using hcl.symm)
  subst hcs
  simp only [Array.append_empty] at hrun
  unfold Oper.wp
  rw [hrun, Oper.upon_enter]
  let c0 : Cx := { ρ := fun _ => none, I := fun b => b < c.w.heap.size, B := c.B, w := c.w }
  have hg0 : Good E c0 (fun _ => none) := by
    refine ⟨fun _ _ h => (nomatch h), fun _ _ _ _ _ _ h => (nomatch h), fun _ h => h, fun _ _ _ h => (nomatch h), fun _ _ h => (nomatch h), hg.base, fun g cs hgc => ?_⟩
    have := hg.glob g cs hgc
    cases this with
    | iptr _ _ b off rd hI hrd' hsub =>
      exact .iptr false cs g 0 rd ⟨hg.imm _ hI.1, by simp⟩ hrd' fun j x hj => (hsub j x hj).mono (fun b hb => ⟨hg.imm _ hb.1, by simp⟩) fun _ _ => rfl
  unfold Open at hop
  have hlive0 : ∀ b, Seen c h2 false b → b < c.w.heap.size := by
    rintro b ⟨h1 | ⟨id, x, p, _, h4, rfl⟩, _⟩
    · exact hg.imm b h1
    · exact (hg.own id p h4).2
  have hsp := hs.spec
  refine Calls.mono (hop.2 c0 (args.map a.eval) hg0 (fun _ _ => rfl) (by rw [List.length_map, ← hsp.1, ← hv]; simp) (fun i x u h1 h3 => ?_)) ?_
  · rw [List.getElem?_map] at h1
    rw [Array.getElem?_map] at h3
    cases hx' : args[i]? with
    | none => simp [hx'] at h3
    | some y =>
      have hx2 : args.toList[i]? = some y := by simpa using hx'
      simp only [hx', Option.map_some, Option.some.injEq] at h3
      cases ha : az[i]? with
      | none => simp [ha] at h1
      | some z =>
        simp only [ha, Option.map_some, Option.some.injEq] at h1
        subst h1; subst h3
        have hz := (hsp.2 i (E.eval t y) z (by rw [← hv, List.getElem?_map, hx2]; rfl) ha).congr hrd
        have := hz.ok hg (hx y (by simp [ho, Op.operands, Call.operands]; exact .inr (Array.mem_of_getElem? hx')))
        exact (this.mono (I' := c0.J false) (fun b hb => ⟨hlive0 b hb, by simp⟩) (fun _ _ => rfl)).toV
  · rintro e w' ⟨u, c', rfl, rfl, hx2, hg2, hd2, hv2⟩
    have hdom : ∀ id p, c'.ρ id = some p → n ≤ id ∧ id < n' := fun id p hp => by
      rcases hd2 id (by rw [hp]; nofun) with h1 | h1
      · exact absurd rfl h1
      · exact h1
    have hsz : c.w.heap.size ≤ c'.w.heap.size := hx2.below.size
    have hBB : c'.B = c.B := hx2.B
    have hnew : ∀ id b p, app wr (fun _ => none) id = some b → c'.ρ id = some p → c.w.heap.size ≤ p.b := fun id b p h1 h3 => by
      rcases Nat.lt_or_ge p.b c.w.heap.size with h4 | h4
      · exact absurd (hx2.imm _ h4) (hg2.sep id b p h1 h3)
      · exact h4
    let c2 : Cx := { ρ := fun id => (c'.ρ id).or (c.ρ id), I := fun b => c.I b, B := c.B, w := c'.w }
    have r1 : ∀ id p, c.ρ id = some p → c2.ρ id = some p := fun id p hp => by
      show (c'.ρ id).or (c.ρ id) = some p
      cases hq : c'.ρ id with
      | none => simpa using hp
      | some q =>
        have := hdom id q hq
        rw [hf id this.1 this.2] at hp; cases hp
    have r2 : ∀ id p, c'.ρ id = some p → c2.ρ id = some p := fun id p hp => by
      show (c'.ρ id).or (c.ρ id) = some p
      rw [hp]; rfl
    have keep : ∀ b, b < c.w.heap.size → c'.w.heap[b]? = c.w.heap[b]? := fun b hb => hx2.keep b hb
    have hx3 : Ext c c2 := ⟨rfl, r1, fun b h => h, fun b hb => keep b (hg.imm b hb), hx2.below⟩
    have hlive : ∀ id b, app wr h2 id = some b → (∃ p, app wr (fun _ => none) id = some b ∧ c'.ρ id = some p) ∨ (id ∉ wr.map (·.1) ∧ h2 id = some b ∧ ∃ p, c.ρ id = some p) := fun id b hb => by
      by_cases hm : id ∈ wr.map (·.1)
      · rw [app_mem wr h2 (fun _ => none) id hm] at hb
        obtain ⟨p, h1, _⟩ := hg2.blk id b hb
        exact .inl ⟨p, hb, h1⟩
      · rw [app_ne wr h2 id hm] at hb
        obtain ⟨p, h1, _⟩ := hg.blk id b hb
        exact .inr ⟨hm, hb, p, h1⟩
    refine hK c2 u hx3 ?_ ?_ (VR.flat3 hfl hv2 r2)
    · refine ⟨fun id b hb => ?_, fun id id' b b' p p' hb hb' hp hp' hpp => ?_, fun b hb => Nat.lt_of_lt_of_le (hg.imm b hb) hsz, fun id b p hb hp hI => ?_, fun id p hp => ?_, Nat.le_trans hg.base hsz, fun g cs hgc => (hg.glob g cs hgc).mono hx3⟩
      · rcases hlive id b hb with ⟨p, h1, h3⟩ | ⟨_, h1, p, h3⟩
        · obtain ⟨q, k1, k2, k3⟩ := hg2.blk id b h1
          refine ⟨q, r2 _ _ k1, fun hm => ?_, fun hm => ?_⟩
          rotate_left
          · obtain ⟨es, j1, j2, j3⟩ := k3 hm
            refine ⟨es, j1, j2, fun i row hr => ?_⟩
            obtain ⟨e, k, x, m1, m2, m3, m4, m5⟩ := j3 i row hr
            have hfr := hwf id b h1 row (List.mem_of_getElem? hr)
            exact ⟨e, k, x, m1, m2, m3, VR.flat (hfr k (by rw [m2]; simp)) m4 r2, VR.flat (hfr x (by rw [m2]; simp)) m5 r2⟩
          obtain ⟨cells, fz, j2, j3, j4, j5, j6, j7, j8⟩ := k2 hm
          refine ⟨cells, fz, j2, j3, j4, j5, j6, j7, fun i j x hx => ?_⟩
          obtain ⟨w, m1, m2, m3⟩ := j8 i j x hx
          refine ⟨w, m1, VR.flat ?_ m2 r2, m3⟩
          unfold get2 at hx
          cases he : b.es[i]? with
          | none => simp [he] at hx
          | some e =>
            simp only [he, Option.bind_some] at hx
            exact hwf id b h1 e (List.mem_of_getElem? he) x (List.mem_of_getElem? hx)
        · obtain ⟨q, k1, k2, k3⟩ := hg.blk id b h1
          have hk := keep q.b (hg.own id q k1).2
          exact ⟨q, r1 _ _ k1, fun hm => (k2 hm).mono hx3 hk, fun hm => (k3 hm).mono hx3 hk⟩
      · have key : ∀ id b p, app wr h2 id = some b → c2.ρ id = some p → (app wr (fun _ => none) id = some b ∧ c'.ρ id = some p ∧ c.w.heap.size ≤ p.b) ∨ (h2 id = some b ∧ c.ρ id = some p ∧ p.b < c.w.heap.size) := fun id b p hb hp => by
          rcases hlive id b hb with ⟨q, h1, h3⟩ | ⟨_, h1, q, h3⟩
          · have := r2 _ _ h3
            rw [this] at hp; obtain rfl := Option.some.inj hp
            exact .inl ⟨h1, h3, hnew _ _ _ h1 h3⟩
          · have := r1 _ _ h3
            rw [this] at hp; obtain rfl := Option.some.inj hp
            exact .inr ⟨h1, h3, (hg.own _ _ h3).2⟩
        rcases key id b p hb hp with ⟨a1, a2, a3⟩ | ⟨a1, a2, a3⟩ <;> rcases key id' b' p' hb' hp' with ⟨b1, b2, b3⟩ | ⟨b1, b2, b3⟩
        · exact hg2.inj id id' b b' p p' a1 b1 a2 b2 hpp
        · omega
        · omega
        · exact hg.inj id id' b b' p p' a1 b1 a2 b2 hpp
      · rcases hlive id b hb with ⟨q, h1, h3⟩ | ⟨_, h1, q, h3⟩
        · have := r2 _ _ h3
          rw [this] at hp; obtain rfl := Option.some.inj hp
          have := hnew _ _ _ h1 h3
          have := hg.imm _ hI
          omega
        · have := r1 _ _ h3
          rw [this] at hp; obtain rfl := Option.some.inj hp
          exact hg.sep id b _ h1 h3 hI
      · have hp2 : (c'.ρ id).or (c.ρ id) = some p := hp
        cases hq : c'.ρ id with
        | some q =>
          rw [hq] at hp2
          obtain rfl : q = p := by simpa using hp2
          have := hg2.own id q hq
          rw [hBB] at this; exact this
        | none =>
          rw [hq] at hp2
          have := hg.own id p (by simpa using hp2)
          exact ⟨this.1, Nat.lt_of_lt_of_le this.2 hsz⟩
    · intro id hid
      have hid2 : (c'.ρ id).or (c.ρ id) ≠ none := hid
      cases hq : c'.ρ id with
      | some q => exact .inr (hdom id q hq)
      | none => rw [hq] at hid2; exact .inl (by simpa using hid2)
section
variable {E : Env} {sz : Nat} {ops : Array Oper} {bl : List Nat} {pre : List Ef} {o : Oper} {l : List Oper} {t : Nat → V} {h : Heap} {n : Nat} {R : (Nat → V) → Heap → Nat → Prop} {v : V} {z : Operand}
theorem rfs {tys : Array TypeId} {f : FuncId} {args : Array Operand} {vs : List V} {wr : List (Nat × Option Blk)} {n1 : Nat} (ids : List Nat) {az : List A} (hop : Open E f (az.map (A.toV false)) (fun _ => none) n v wr n1) (ho : o.op = .call { callee := .value z, args := args, argTypes := tys }) (hc : E.eval t z = .clo f []) (hv : args.toList.map (E.eval t) = vs) (hs : SnapL h ids false vs az)
    (hfl : v.flat3 = true) (hwf : ∀ id b, app wr (fun _ => none) id = some b → ∀ e ∈ b.es, ∀ x ∈ e, x.flat = true) (hne : wr ≠ []) {d : Nat} (hdd : o.dst = some d) (hd : Nat.blt d sz = true) (hg : guardV ops t o = some true) (w : WR E sz ops l (upd t d v) (app wr h) n1 R) : WR E sz ops (o :: l) t h n R := rOpD (op_freshS ho hc hv hs hop hfl hwf) hdd hd hg hop.le (fun h => absurd h hne) w
theorem dfs {tys : Array TypeId} {f : FuncId} {args : Array Operand} {vs : List V} {wr : List (Nat × Option Blk)} {n1 : Nat} (ids : List Nat) {az : List A} (hop : Open E f (az.map (A.toV false)) (fun _ => none) n v wr n1) (ho : o.op = .call { callee := .value z, args := args, argTypes := tys }) (hc : E.eval t z = .clo f []) (hv : args.toList.map (E.eval t) = vs) (hs : SnapL h ids false vs az)
    (hfl : v.flat3 = true) (hwf : ∀ id b, app wr (fun _ => none) id = some b → ∀ e ∈ b.es, ∀ x ∈ e, x.flat = true) (hne : wr ≠ []) {d : Nat} (hdd : o.dst = some d) (hd : Nat.blt d sz = true) (hg : guardV ops t o = some true) (w : WD E sz ops bl (⟨false, v, ids, false, wr, n, n1⟩ :: pre) l (upd t d v) (app wr h) n1 R) : WD E sz ops bl pre (o :: l) t h n R := dOpD (op_freshS ho hc hv hs hop hfl hwf) hdd hd hg hop.le (fun h => absurd h hne) w
end
end Go.V
namespace Go.V
open Go
set_option linter.unusedVariables false
set_option linter.unusedSimpArgs false
inductive Sh where
  | bool
  | int (k : IntKind)
  | str
  | sl (l : List Sh)
mutual
inductive HasSh : T → Sh → Prop
  | bool (b : Bool) : HasSh (.bool b) .bool
  | int (k : IntKind) (n : Int) (h : (Lit.int k n).wf = true) : HasSh (.int k n) (.int k)
  | str (s : ByteArray) (h : s.size ≤ maxLen) : HasSh (.str s) .str
  | sl (es : List (List T)) (l : List Sh) (h : es.length ≤ maxLen) (hs : ∀ e ∈ es, Shs e l) : HasSh (.sl false es) (.sl l)
inductive Shs : List T → List Sh → Prop
  | nil : Shs [] []
  | cons (x : T) (s : Sh) (xs : List T) (l : List Sh) (h : HasSh x s) (hs : Shs xs l) : Shs (x :: xs) (s :: l)
end
theorem addA (a : Addr) (i j : Nat) : (a.add i).add j = a.add (i + j) := by
  unfold Addr.add
  by_cases hi : i = 0 <;> by_cases hj : j = 0 <;> simp [hi, hj, Nat.add_assoc]
theorem addP (b o i : Nat) : (⟨b, o, none⟩ : Addr).add i = ⟨b, o + i, none⟩ := by unfold Addr.add; split <;> simp_all
theorem Shs.length {xs : List T} {l : List Sh} (h : Shs xs l) : xs.length = l.length := by
  induction xs generalizing l with
  | nil => cases h; rfl
  | cons x xs ih => cases h with | cons _ _ _ _ _ hs => simp [ih hs]
theorem Shs.append {xs ys : List T} {l m : List Sh} (h : Shs xs l) (k : Shs ys m) : Shs (xs ++ ys) (l ++ m) := by
  induction xs generalizing l with
  | nil => cases h; exact k
  | cons x xs ih => cases h with | cons _ s _ l h hs => exact .cons x s _ _ h (ih hs)
def shFs (P : Program) (rec : TypeId → Option (List Sh)) : Nat → List Field → Option (List Sh)
  | _, [] => some []
  | off, f :: fs => match rec f.type with
    | none => none
    | some l => if f.offset = off ∧ P.cellsOf f.type = l.length then (shFs P rec (off + l.length) fs).map (l ++ ·) else none
def shOf (P : Program) : Nat → TypeId → Option (List Sh)
  | 0, _ => none
  | d + 1, t => match P.underlying t with
    | some .bool => some [.bool]
    | some (.int k) => some [.int k]
    | some .string => some [.str]
    | some (.slice e) => match shOf P d e with
      | some l => if P.cellsOf e = l.length ∧ l ≠ [] then some [.sl l] else none
      | none => none
    | some (.struct fs) => match shFs P (shOf P d) 0 fs.toList with
      | some l => if P.cellsOf t = l.length then some l else none
      | none => none
    | _ => none
def Opened (w : World) (cs : List Value) (l : List Sh) : Prop :=
  ∃ xs : List T, xs.length = cs.length ∧ Shs xs l ∧ ∀ (i : Nat) (x : T) (v : Value), xs[i]? = some x → cs[i]? = some v → TR (fun b => b < w.heap.size) w x v
theorem Opened.one {w : World} {v : Value} {x : T} {s : Sh} (h : HasSh x s) (t : TR (fun b => b < w.heap.size) w x v) : Opened w [v] [s] :=
  ⟨[x], rfl, .cons _ _ _ _ h .nil, fun i y u h1 h2 => by
    cases i with
    | zero => simp only [List.getElem?_cons_zero, Option.some.injEq] at h1 h2; subst h1; subst h2; exact t
    | succ i => simp at h1⟩
section
variable {H : Type} {enc : TypeId × Value → H} {P : Program} {w : World} {base : Nat} {spare : Nat → Bool} {held : Bool}
theorem open_fs {rec : TypeId → Option (List Sh)} {n : Nat} (ih : ∀ (t : TypeId) (cs : List Value) (x : DataW H × List MemPlace) (l : List Sh), rec t = some l → DataW.trod enc P w base spare held n t cs = some x → Opened w cs l) :
    ∀ (fs : List Field) (off : Nat) (l : List Sh) (cs : List Value), shFs P rec off fs = some l → cs.length = off + l.length →
      (∀ f ∈ fs, ∃ y, DataW.trod enc P w base spare held n f.type ((cs.drop f.offset).take (P.cellsOf f.type)) = some y) → Opened w (cs.drop off) l
  | [], off, l, cs, h, hl, _ => by
    simp only [shFs, Option.some.injEq] at h
    subst h
    refine ⟨[], ?_, .nil, fun i x v h1 => by simp at h1⟩
    simp only [List.length_nil, Nat.add_zero] at hl
    simp [hl]
  | f :: fs, off, l, cs, h, hl, hf => by
    unfold shFs at h
    cases hr : rec f.type with
    | none => rw [hr] at h; cases h
    | some l1 =>
      rw [hr] at h
      simp only at h
      split at h
      · rename_i hc
        obtain ⟨l2, h2, rfl⟩ := Option.map_eq_some_iff.1 h
        simp only [List.length_append] at hl
        obtain ⟨y, hy⟩ := hf f List.mem_cons_self
        rw [hc.1, hc.2] at hy
        obtain ⟨xs1, e1, s1, t1⟩ := ih f.type _ y l1 hr hy
        obtain ⟨xs2, e2, s2, t2⟩ := open_fs ih fs (off + l1.length) l2 cs h2 (by omega) (fun g hg => hf g (List.mem_cons_of_mem _ hg))
        have q1 : xs1.length = l1.length := s1.length
        refine ⟨xs1 ++ xs2, by rw [List.length_append, e2, List.length_drop, List.length_drop]; omega, s1.append s2, fun i x v g1 g2 => ?_⟩
        rcases Nat.lt_or_ge i l1.length with hi | hi
        · rw [List.getElem?_append_left (by omega)] at g1
          exact t1 i x v g1 (by rw [List.getElem?_take_of_lt hi]; exact g2)
        · rw [List.getElem?_append_right (by omega)] at g1
          refine t2 (i - xs1.length) x v g1 ?_
          rw [List.getElem?_drop] at g2 ⊢
          rw [q1, show off + l1.length + (i - l1.length) = off + i by omega]; exact g2
      · cases h
theorem open_gen : ∀ (d fuel : Nat) (t : TypeId) (cs : List Value) (x : DataW H × List MemPlace) (l : List Sh), shOf P d t = some l → DataW.trod enc P w base spare held fuel t cs = some x → Opened w cs l
  | 0, _, _, _, _, _, h, _ => by simp [shOf] at h
  | d + 1, fuel, t, cs, x, l, h, hx => by
    unfold shOf at h
    split at h
    · rename_i hu
      simp only [Option.some.injEq] at h; subst h
      obtain ⟨b, rfl, _⟩ := DataW.trod_bool hu hx
      exact Opened.one (.bool b) (.bool b)
    · rename_i k hu
      simp only [Option.some.injEq] at h; subst h
      obtain ⟨n, rfl, _, hw⟩ := DataW.trod_int hu hx
      exact Opened.one (.int k n hw) (.int k n)
    · rename_i hu
      simp only [Option.some.injEq] at h; subst h
      obtain ⟨s, rfl, _, hs⟩ := DataW.trod_string hu hx
      exact Opened.one (.str s hs) (.str s)
    · rename_i e hu
      split at h
      · rename_i le hle
        split at h
        · rename_i hc
          simp only [Option.some.injEq] at h; subst h
          rcases DataW.trod_slice hu hx with ⟨rfl, _⟩ | ⟨a, len, cap, elems, rest, n, rfl, rfl, _, hb, hl, hm, hlen, hel, _⟩
          · exact Opened.one (.sl [] le (Nat.zero_le _) (fun e he => nomatch he)) (.sl false [] none 0 0 0 (fun _ _ => undef) rfl (Nat.le_refl _) (fun _ => ⟨rfl, rfl, rfl⟩) (fun A hA => by cases hA) (by simp) (fun A _ _ _ hA => by cases hA) (fun i j c hc => by simp [get2] at hc))
          · have key : ∀ i, i < len → ∃ xs : List T, Shs xs le ∧ ∀ j y, xs[j]? = some y → ∃ v, w.cell? (a.add (i * le.length + j)) = some v ∧ TR (fun b => b < w.heap.size) w y v := fun i hi => by
              have h1 := hel i hi
              rw [List.getElem?_eq_getElem (by omega)] at h1
              obtain ⟨cs', h2, h3⟩ := Option.bind_eq_some_iff.1 h1
              obtain ⟨xs, q1, q2, q3⟩ := open_gen d n e cs' _ le hle h3
              obtain ⟨_, r1, r2⟩ := World.cells?_some h2
              refine ⟨xs, q2, fun j y hy => ?_⟩
              have hj : j < cs'.length := by rw [← q1]; exact (List.getElem?_eq_some_iff.1 hy).1
              have hc2 := r2 j (by omega)
              rw [List.getElem?_eq_getElem hj, addA, hc.1] at hc2
              exact ⟨_, hc2, q3 j y _ hy (List.getElem?_eq_getElem hj)⟩
            let row : Nat → List T := fun i => if h : i < len then Classical.choose (key i h) else []
            have hrow : ∀ i, i < len → Shs (row i) le ∧ ∀ j y, (row i)[j]? = some y → ∃ v, w.cell? (a.add (i * le.length + j)) = some v ∧ TR (fun b => b < w.heap.size) w y v := fun i hi => by
              have := Classical.choose_spec (key i hi)
              simp only [row, hi, dif_pos]; exact this
            have hget : ∀ i j y, get2 ((List.range len).map row) i j = some y → i < len ∧ (row i)[j]? = some y := fun i j y hy => by
              unfold get2 at hy
              rcases Nat.lt_or_ge i len with hi | hi
              · simp only [List.getElem?_map, List.getElem?_range hi, Option.map_some, Option.bind_some] at hy; exact ⟨hi, hy⟩
              · rw [List.getElem?_eq_none (by simpa using hi)] at hy; simp at hy
            have hspot : 0 < len → a.spot = none ∧ a.block < w.heap.size := fun h0 => by
              obtain ⟨q1, q2⟩ := hrow 0 h0
              have hne : (row 0).length ≠ 0 := by rw [q1.length]; intro e; exact hc.2 (List.length_eq_zero_iff.1 e)
              obtain ⟨v, hv, _⟩ := q2 0 _ (List.getElem?_eq_getElem (by omega))
              have hs := World.cell?_spot hv
              have hs2 : a.spot = none := by simpa [Addr.add] using hs
              refine ⟨hs2, ?_⟩
              unfold World.cell? at hv
              have : w.heap[a.block]? ≠ none := fun e => by simp [Addr.add, e] at hv
              rcases Nat.lt_or_ge a.block w.heap.size with h | h
              · exact h
              · exact absurd (Array.getElem?_eq_none h) this
            refine Opened.one (.sl ((List.range len).map row) le (by rw [List.length_map, List.length_range]; omega) (fun e he => ?_)) ?_
            · obtain ⟨i, hi, rfl⟩ := List.mem_map.1 he
              exact (hrow i (List.mem_range.1 hi)).1
            · refine .sl false _ (some a) len cap le.length (fun i j => (w.cell? ⟨a.block, a.off + i * le.length + j, none⟩).getD undef) (by simp) hl (fun h => by cases h) (fun A hA hne => ?_) (fun e he => ?_) (fun A i j c hA hg => ?_) (fun i j c hg => ?_)
              · cases hA
                exact hspot (by
                  rcases Nat.eq_zero_or_pos len with h | h
                  · subst h; exact absurd rfl hne
                  · exact h)
              · obtain ⟨i, hi, rfl⟩ := List.mem_map.1 he
                exact (hrow i (List.mem_range.1 hi)).1.length
              · cases hA
                obtain ⟨hi, hy⟩ := hget i j c hg
                obtain ⟨v, hv, _⟩ := (hrow i hi).2 j c hy
                have hs := (hspot (by omega)).1
                have e : a.add (i * le.length + j) = ⟨a.block, a.off + i * le.length + j, none⟩ := by
                  obtain ⟨b, o, sp⟩ := a
                  simp only at hs; subst hs
                  rw [addP, Nat.add_assoc]
                rw [e] at hv
                rw [hv]; rfl
              · obtain ⟨hi, hy⟩ := hget i j c hg
                obtain ⟨v, hv, ht⟩ := (hrow i hi).2 j c hy
                have hs := (hspot (by omega)).1
                have e : a.add (i * le.length + j) = ⟨a.block, a.off + i * le.length + j, none⟩ := by
                  obtain ⟨b, o, sp⟩ := a
                  simp only at hs; subst hs
                  rw [addP, Nat.add_assoc]
                rw [e] at hv
                rw [hv]; exact ht
        · cases h
      · cases h
    · rename_i fs hu
      split at h
      · rename_i lf hlf
        split at h
        · rename_i hc
          simp only [Option.some.injEq] at h; subst h
          obtain ⟨xs, n, _, _, hl, hxl, hf⟩ := DataW.trod_struct hu hx
          have := open_fs (P := P) (w := w) (rec := shOf P d) (n := n) (fun t' cs' x' l' h1 h2 => open_gen d n t' cs' x' l' h1 h2) fs.toList 0 lf cs hlf (by omega) (fun f hfm => ?_)
          · simpa using this
          · obtain ⟨i, hi, rfl⟩ := List.getElem_of_mem hfm
            have hi' : i < fs.size := by simpa using hi
            have := hf i (fs.toList[i]) (by simp [hi'])
            rw [List.getElem?_eq_getElem (by omega)] at this
            exact ⟨_, this⟩
        · cases h
      · cases h
    · cases h
end
theorem rows_of {α : Type} {f : α → List T} : ∀ (es : List (List T)), (∀ e ∈ es, ∃ r, f r = e) → ∃ L : List α, es = L.map f
  | [], _ => ⟨[], rfl⟩
  | e :: es, h => by
    obtain ⟨r, rfl⟩ := h e List.mem_cons_self
    obtain ⟨L, rfl⟩ := rows_of es fun e he => h e (List.mem_cons_of_mem _ he)
    exact ⟨r :: L, rfl⟩
end Go.V
namespace Go.V
open Go
set_option linter.unusedVariables false
set_option linter.unusedSimpArgs false
def famL (w : Nat → Nat) (F : Nat → Option Blk) (n : Nat) : List (Nat × Option Blk) := (List.range n).map fun i => (w i, F i)
theorem app_append : ∀ (l m : List (Nat × Option Blk)) (h : Heap), app (l ++ m) h = app m (app l h)
  | [], m, h => rfl
  | (i, b) :: l, m, h => app_append l m (upd h i b)
theorem famL_zero {w : Nat → Nat} {F : Nat → Option Blk} : famL w F 0 = [] := rfl
theorem famL_succ {w : Nat → Nat} {F : Nat → Option Blk} {n : Nat} : famL w F (n + 1) = famL w F n ++ [(w n, F n)] := by
  unfold famL; rw [List.range_succ, List.map_append]; rfl
theorem famL_ids {w : Nat → Nat} {F : Nat → Option Blk} {n : Nat} : (famL w F n).map (·.1) = (List.range n).map w := by
  unfold famL; rw [List.map_map]; rfl
theorem famL_mem {w : Nat → Nat} {F : Nat → Option Blk} {n j : Nat} : j ∈ (famL w F n).map (·.1) ↔ ∃ i, i < n ∧ w i = j := by
  rw [famL_ids, List.mem_map]
  exact ⟨fun ⟨i, h1, h2⟩ => ⟨i, List.mem_range.1 h1, h2⟩, fun ⟨i, h1, h2⟩ => ⟨i, List.mem_range.2 h1, h2⟩⟩
theorem famO {w : Nat → Nat} {F : Nat → Option Blk} {n : Nat} {h : Heap} {id : Nat} (ho : ∀ i, i < n → w i ≠ id) : app (famL w F n) h id = h id :=
  app_ne _ _ _ fun hm => by obtain ⟨i, h1, h2⟩ := famL_mem.1 hm; exact ho i h1 h2
theorem famI {w : Nat → Nat} {F : Nat → Option Blk} {h : Heap} : ∀ {n i : Nat}, (∀ i j, i < n → j < n → w i = w j → i = j) → i < n → app (famL w F n) h (w i) = F i
  | n + 1, i, inj, hi => by
    rw [famL_succ, app_append, appC, app0]
    by_cases e : i = n
    · subst e; exact updS rfl
    · rw [updN (fun e2 => e (inj i n hi (Nat.lt_succ_self n) e2))]
      exact famI (fun a b ha hb => inj a b (by omega) (by omega)) (by omega)
theorem lessFam {w : Nat → Nat} {F : Nat → Option Blk} {n m : Nat} {wr : List (Nat × Option Blk)} {h g : Heap} (hz : ∀ i, m ≤ i → h i = none)
    (h0 : ∀ i, i < n → g (w i) = app (wr ++ famL w F n) h (w i)) (h1 : ∀ j ∈ wr.map (·.1), g j = app (wr ++ famL w F n) h j)
    (h2 : ∀ j, j < m → (∀ i, i < n → w i ≠ j) → j ∉ wr.map (·.1) → g j = h j) : LessH (app (wr ++ famL w F n) h) g := by
  refine lessApp (n := m) hz (fun j hj => ?_) (fun j hj hn => ?_)
  · rw [List.map_append, List.mem_append] at hj
    rcases hj with hj | hj
    · exact h1 j hj
    · obtain ⟨i, hi, rfl⟩ := famL_mem.1 hj; exact h0 i hi
  · rw [List.map_append, List.mem_append, not_or] at hn
    exact h2 j hj (fun i hi e => hn.2 (famL_mem.2 ⟨i, hi, e⟩)) hn.1
theorem leFam {w : Nat → Nat} {F : Nat → Option Blk} {k n : Nat} {wr : List (Nat × Option Blk)} {h h' : Heap}
    (h0 : ∀ i, i < k → h' (w i) = app (wr ++ famL w F k) h (w i)) (h1 : ∀ j ∈ wr.map (·.1), h' j = app (wr ++ famL w F k) h j)
    (h2 : ∀ j, j < n → (∀ i, i < k → w i ≠ j) → j ∉ wr.map (·.1) → h' j = h j) : (∀ i, n ≤ i → h i = none) → ∀ id b, app (wr ++ famL w F k) h id = some b → h' id = some b := by
  refine leWr (fun j hj => ?_) (fun j hj hn => ?_)
  · rw [List.map_append, List.mem_append] at hj
    rcases hj with hj | hj
    · exact h1 j hj
    · obtain ⟨i, hi, rfl⟩ := famL_mem.1 hj; exact h0 i hi
  · rw [List.map_append, List.mem_append, not_or] at hn
    exact h2 j hj (fun i hi e => hn.2 (famL_mem.2 ⟨i, hi, e⟩)) hn.1
end Go.V
