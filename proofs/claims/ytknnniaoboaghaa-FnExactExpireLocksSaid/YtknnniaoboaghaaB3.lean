import Derived.Test.YtknnniaoboaghaaB2
namespace Go.Proofs.Ytknnniaoboaghaa
open Go.V
set_option linter.unusedVariables false
set_option linter.unusedSimpArgs false
set_option maxRecDepth 20000
set_option maxHeartbeats 4000000

/-! Locks, their waiters; tables. -/
theorem getMap {α β : Type} (f : α → β) (d : α) {L : List α} {k : Nat} (h : k < L.length) : (L.map f)[k]? = some (f (L.getD k d)) := by
  simp [h]
abbrev Wt := Int × Int
def wtT (w : Wt) : List T := [.int .i64 w.1, .int .i64 w.2]
def wtV (w : Wt) : List V := [.int .i64 w.1, .int .i64 w.2]
structure An where
  kd : Int
  tk : Int
  hd : Int
  ex : Int
def An.T (a : An) : List T := [.int .i64 a.kd, .int .i64 a.tk, .int .i64 a.hd, .int .i64 a.ex]
def An.OK (a : An) : Prop := (1 ≤ a.kd ∧ a.kd ≤ 8) ∧ (0 ≤ a.tk ∧ a.tk ≤ 1000000) ∧ (-1 ≤ a.hd ∧ a.hd ≤ 255) ∧ (0 ≤ a.ex ∧ a.ex ≤ 2000000000)
instance (a : An) : Decidable a.OK := by unfold An.OK; infer_instance
structure Lk where
  nm : ByteArray
  tk : Int
  hd : Int
  ex : Int
  ws : List Wt
def Lk.T (b : Bool) (l : Lk) : List T := [.str l.nm, .int .i64 l.tk, .int .i64 l.hd, .int .i64 l.ex, .sl b (l.ws.map wtT)]
def Lk0 : Lk := ⟨⟨#[]⟩, 0, 0, 0, []⟩
structure Sn where
  cl : Int
  st : Int
  an : An
def Sn.T (s : Sn) : List T := [.int .i64 s.cl, .int .i64 s.st, .int .i64 s.an.kd, .int .i64 s.an.tk, .int .i64 s.an.hd, .int .i64 s.an.ex]
def Sn0 : Sn := ⟨0, 0, ⟨0, 0, 0, 0⟩⟩
structure Tb where
  tm : Int
  nx : Int
  lk : List Lk
  sn : List Sn
def Tb.T (t : Tb) (b n1 n2 : Bool) : List T := [.int .i64 t.tm, .int .i64 t.nx, .sl n1 (t.lk.map (Lk.T b)), .sl n2 (t.sn.map Sn.T)]

/-- The place of a client among those that wait, or -1. -/
def wix (c : Int) : List Wt → Int
  | [] => -1
  | w :: r => if w.1 = c then 0 else if wix c r = -1 then -1 else wix c r + 1
theorem wix_some {c : Int} : ∀ {ws : List Wt} {i : Nat}, i < ws.length → (ws.getD i (0, 0)).1 = c → (∀ j, j < i → ¬ (ws.getD j (0, 0)).1 = c) → wix c ws = i
  | [], i, h, _, _ => absurd h (Nat.not_lt_zero _)
  | w :: r, 0, _, h, _ => by
    unfold wix
    rw [if_pos (by simpa using h)]; rfl
  | w :: r, i + 1, h, h1, h2 => by
    unfold wix
    rw [if_neg (by simpa using h2 0 (Nat.succ_pos _))]
    have := wix_some (ws := r) (i := i) (by simpa using h) (by simpa using h1) (fun j hj => by simpa using h2 (j + 1) (by omega))
    rw [this, if_neg (by omega)]; rfl
theorem wix_none {c : Int} : ∀ {ws : List Wt}, (∀ j, j < ws.length → ¬ (ws.getD j (0, 0)).1 = c) → wix c ws = -1
  | [], _ => rfl
  | w :: r, h => by
    unfold wix
    rw [if_neg (by simpa using h 0 (Nat.succ_pos _))]
    have := wix_none (ws := r) (fun j hj => by simpa using h (j + 1) (by simpa using hj))
    rw [this, if_pos rfl]
/-- None ahead of it. -/
theorem wix_lt {c : Int} : ∀ {ws : List Wt} {i : Nat}, i < ws.length → (ws.getD i (0, 0)).1 = c → ((i : Int) ≤ wix c ws ↔ ∀ j, j < i → ¬ (ws.getD j (0, 0)).1 = c)
  | [], i, h, _ => absurd h (Nat.not_lt_zero _)
  | w :: r, 0, _, h => by
    unfold wix
    rw [if_pos (by simpa using h)]
    exact ⟨fun _ j hj => absurd hj (Nat.not_lt_zero _), fun _ => Int.le_refl _⟩
  | w :: r, i + 1, h, h1 => by
    have ih := wix_lt (ws := r) (i := i) (by simpa using h) (by simpa using h1)
    unfold wix
    by_cases hw : w.1 = c
    · rw [if_pos hw]
      refine ⟨fun h => by omega, fun h => absurd (by simpa using hw) (h 0 (Nat.succ_pos _))⟩
    · rw [if_neg hw]
      split
      · rename_i hm
        refine ⟨fun h => by omega, fun h => ?_⟩
        have := ih.2 (fun j hj => by simpa using h (j + 1) (by omega))
        omega
      · rename_i hm
        refine ⟨fun h j hj => ?_, fun h => ?_⟩
        · cases j with
          | zero => simpa using hw
          | succ j => simpa using ih.1 (by omega) j (by omega)
        · have := ih.2 (fun j hj => by simpa using h (j + 1) (by omega))
          omega

theorem o80 (w : Wt) (c : Int) {id : Nat} {h : Heap} {n : Nat} (hid : id < n) (hh : h id = some ⟨[[.int .i64 c]], 1, 3⟩) : V.Open En 141 [.agg (wtV w), .ptr id 0 0] h n (.bool (decide (w.1 = c))) [] (n + 1) := by
  refine V.Open.of_wp Try.func141 rfl (Nat.le_of_ble_eq_true rfl) ?_
  refine wSeq ?_
  refine wRegion ?_
  refine rbx (u := .agg [.int _ _, .int _ _]) rfl rfl rfl rfl rfl rfl rfl ?_
  refine raB rfl rfl rfl rfl rfl ?_
  refine rNil ?_
  refine qSeq ?_
  refine wSeq ?_
  refine wRegion ?_
  refine rfa (off := 0) (s := 1) (r := false) rfl rfl rfl (Nat.succ_ne_zero _) rfl rfl rfl ?_
  (apply rlc (v := .int _ _) rfl rfl; (first | ((simp (disch := omega) only [↓app0, ↓appC, ↓updS, ↓updN, ↓hpS, ↓hpN]) <;> first | rfl | assumption) | assumption | rfl); rfl; rfl; rfl; rfl; rfl; rfl)
  (apply rlc (v := .int _ _) rfl rfl; (first | ((simp (disch := omega) only [↓app0, ↓appC, ↓updS, ↓updN, ↓hpS, ↓hpN]) <;> first | rfl | assumption) | assumption | rfl); rfl; rfl; rfl; rfl; rfl; rfl)
  refine req rfl rfl rfl rfl rfl rfl ?_ ?_ <;> intro h1_3
  · refine raB rfl rfl rfl rfl rfl ?_
    refine rNil ?_
    refine qSeq ?_
    refine wRet ?_
    first
      | (rw [decide_eq_true h1_3]; exact finO rfl rfl (leWr (fun j hj => absurd hj List.not_mem_nil) (fun j hj hn => by simp (disch := omega) only [↓app0, ↓appC, ↓updS, ↓updN])) (Nat.le_refl _))
      | (rw [decide_eq_false h1_3]; exact finO rfl rfl (leWr (fun j hj => absurd hj List.not_mem_nil) (fun j hj hn => by simp (disch := omega) only [↓app0, ↓appC, ↓updS, ↓updN])) (Nat.le_refl _))
  · refine raB rfl rfl rfl rfl rfl ?_
    refine rNil ?_
    refine qSeq ?_
    refine wRet ?_
    first
      | (rw [decide_eq_true h1_3]; exact finO rfl rfl (leWr (fun j hj => absurd hj List.not_mem_nil) (fun j hj hn => by simp (disch := omega) only [↓app0, ↓appC, ↓updS, ↓updN])) (Nat.le_refl _))
      | (rw [decide_eq_false h1_3]; exact finO rfl rfl (leWr (fun j hj => absurd hj List.not_mem_nil) (fun j hj hn => by simp (disch := omega) only [↓app0, ↓appC, ↓updS, ↓updN])) (Nat.le_refl _))
theorem o79 (fr nn : Bool) (ws : List Wt) (c : Int) (hL : ws.length ≤ 1048576) {id : Nat} {h : Heap} {n : Nat} (hid : id < n) (hh : h id = some ⟨[[.int .i64 c]], 1, 3⟩) :
    V.Open En 140 [.sl fr nn (ws.map wtT), .clo 141 [.ptr id 0 0]] h n (.int .i64 (wix c ws)) [] (n + ws.length) := by
  have hl : (ws.map wtT).length = ws.length := List.length_map ..
  refine V.Open.of_wp Try.func140 rfl (Nat.le_of_ble_eq_true rfl) ?_
  refine wSeq ?_
  refine wRegion ?_
  refine raI rfl rfl rfl rfl rfl ?_
  refine rNil ?_
  refine qSeq ?_
  refine wSeq ?_
  refine wSeq ?_
  refine wRegion ?_
  refine rmL rfl rfl rfl rfl rfl ?_
  refine rll rfl rfl rfl rfl rfl rfl ?_
  refine rmI rfl rfl rfl rfl rfl ?_
  refine rNil ?_
  refine qSeq ?_
  refine wBlock ?_
  refine wLoop ?_
  refine loopGo (fun (a : Nat × Nat) => [.sl fr nn (ws.map wtT), .clo 141 [.ptr id 0 0], .unk, .unk, .unk, .unk, .unk, .int .i64 (ws.map wtT).length, .int .i64 a.1]) (fun (a : Nat × Nat) => h) (fun (a : Nat × Nat) => a.2) (fun (a : Nat × Nat) => a.1 ≤ ws.length ∧ (∀ j, j < a.1 → ¬ (ws.getD j (0, 0)).1 = c) ∧ n + a.1 = a.2) (fun (a : Nat × Nat) => ws.length - a.1) (0, n) ?_ ?_ ?_ ?_ ?_
  · exact ⟨Nat.zero_le _, all0, rfl⟩
  · (repeat first | exact LE.nil _ | refine LE.unk _ _ ?_ | refine LE.eq _ _ _ rfl ?_)
  · exact LessH.refl _
  · exact Nat.le_refl _
  intro ⟨i, m⟩ hI ih
  dsimp only at hI ⊢
  refine lStep ?_
  refine wSeq ?_
  refine wRegion ?_
  refine rlt rfl rfl rfl rfl rfl rfl ?_ ?_ <;> intro h2_0
  · refine rNil ?_
    refine qSeq ?_
    refine wSeq ?_
    refine wT rfl ?_
    refine wSkip ?_
    refine qSeq ?_
    refine wSeq ?_
    refine wBlock ?_
    refine wSeq ?_
    refine wRegion ?_
    refine rmI rfl rfl rfl rfl rfl ?_
    refine raI rfl rfl rfl rfl rfl ?_
    refine rNil ?_
    refine qSeq ?_
    refine wSeq ?_
    refine wRegion ?_
    refine rmC rfl rfl rfl rfl rfl ?_
    refine rmL rfl rfl rfl rfl rfl ?_
    refine rmI rfl rfl rfl rfl rfl ?_
    (apply rixl rfl rfl rfl rfl; (first | omega | assumption | (focus (simp; omega))); (first | rfl | assumption | (exact getMap wtT (0, 0) (by omega))); rfl; rfl; rfl; rfl)
    refine rlir (vs := [.int _ _, .int _ _]) rfl rfl rfl (Nat.le_of_ble_eq_true rfl) rfl rfl rfl rfl ?_
    refine ropB (o80 (ws.getD i (0, 0)) c (n := m) (by omega) hh) rfl rfl rfl rfl rfl rfl ?_ ?_
    all_goals intro h4_5
    · refine rNil ?_
      refine qSeq ?_
      refine wT rfl ?_
      refine wSeq ?_
      refine wRegion ?_
      refine rmI rfl rfl rfl rfl rfl ?_
      refine raI rfl rfl rfl rfl rfl ?_
      refine rNil ?_
      refine qSeq ?_
      refine wRet ?_
      refine qBlockR ?_
      refine qSeqR ?_
      refine qLoopR ?_
      refine qBlockR ?_
      refine qSeqR ?_
      rw [wix_some (i := i) (by omega) (of_decide_eq_true h4_5) hI.2.1]; exact finO rfl rfl (fun _ _ _ e => e) (by omega)
    · refine rNil ?_
      refine qSeq ?_
      refine wF rfl ?_
      refine wSkip ?_
      refine qBlock ?_
      refine qSeq ?_
      refine wRegion ?_
      refine raddF rfl rfl rfl ?_ ?_ rfl rfl rfl ?_
      · (first | omega | assumption | (focus (simp; omega)))
      · (first | omega | assumption | (focus (simp; omega)))
      refine rmI rfl rfl rfl rfl rfl ?_
      refine rNil ?_
      refine qLoop ?_
      exact wlH (ih (i + 1, m + 1) ⟨by dsimp only; omega, allS hI.2.1 (of_decide_eq_false h4_5), by dsimp only; omega⟩ (by dsimp only; omega)) (by (repeat first | exact LE.nil _ | refine LE.unk _ _ ?_ | refine LE.eq _ _ _ rfl ?_)) (LessH.refl _) (Nat.le_refl _)
  · refine rNil ?_
    refine qSeq ?_
    refine wSeq ?_
    refine wF rfl ?_
    refine wExit ?_
    refine qSeqX ?_
    refine qLoopX ?_
    refine qBlockX ?_
    refine qSeq ?_
    refine wSeq ?_
    refine wRegion ?_
    refine raI rfl rfl rfl rfl rfl ?_
    refine rNil ?_
    refine qSeq ?_
    refine wRet ?_
    rw [wix_none (fun j hj => hI.2.1 j (by omega))]; exact finO rfl rfl (fun _ _ _ e => e) (by omega)
theorem p66 (l : Lk) (nn : Bool) (c : Int) (hL : l.ws.length ≤ 1048576) : Pure En 117 [.agg [.str l.nm, .int .i64 l.tk, .int .i64 l.hd, .int .i64 l.ex, .sl nn (l.ws.map wtT)], .one (.int .i64 c)] [.one (.int .i64 (wix c l.ws))] := by
  refine Pure.of_wp Try.func117 rfl (Nat.le_of_ble_eq_true rfl) ?_
  refine wSeq ?_
  refine wRegion ?_
  refine rbx (u := .agg [.str _, .int _ _, .int _ _, .int _ _, _]) rfl rfl rfl rfl rfl rfl rfl ?_
  refine rbx (u := .int _ _) rfl rfl rfl rfl rfl rfl rfl ?_
  refine raI rfl rfl rfl rfl rfl ?_
  refine rNil ?_
  refine qSeq ?_
  refine wSeq ?_
  refine wRegion ?_
  refine rfa (off := 4) (s := 1) (r := false) rfl rfl rfl (Nat.succ_ne_zero _) rfl rfl rfl ?_
  (apply rlc (v := .sl _ _ _) rfl rfl; (first | ((simp (disch := omega) only [↓app0, ↓appC, ↓updS, ↓updN, ↓hpS, ↓hpN]) <;> first | rfl | assumption) | assumption | rfl); rfl; rfl; rfl; rfl; rfl; rfl)
  refine rmf rfl rfl rfl rfl rfl ?_
  refine rop (o79 false nn l.ws c hL (id := 1) ?_ ?_) rfl rfl rfl rfl rfl rfl ?_
  · (first | omega | (first | ((simp (disch := omega) only [↓app0, ↓appC, ↓updS, ↓updN, ↓hpS, ↓hpN]) <;> first | rfl | assumption) | assumption | rfl) | (first | omega | assumption | (focus (simp; omega))))
  · (first | omega | (first | ((simp (disch := omega) only [↓app0, ↓appC, ↓updS, ↓updN, ↓hpS, ↓hpN]) <;> first | rfl | assumption) | assumption | rfl) | (first | omega | assumption | (focus (simp; omega))))
  refine raI rfl rfl rfl rfl rfl ?_
  refine rNil ?_
  refine qSeq ?_
  refine wRet ?_
  exact fin rfl rfl

/-- A lock that is right below a next token. -/
def wOK (l : Lk) (i : Nat) : Prop := (0 ≤ (l.ws.getD i (0, 0)).1 ∧ (l.ws.getD i (0, 0)).1 ≤ 255) ∧ (l.ws.getD i (0, 0)).1 ≠ l.hd ∧ (1 ≤ (l.ws.getD i (0, 0)).2 ∧ (l.ws.getD i (0, 0)).2 ≤ 1000) ∧ ∀ j, j < i → ¬ (l.ws.getD j (0, 0)).1 = (l.ws.getD i (0, 0)).1
def Lk.OK (nx : Int) (l : Lk) : Prop := opName l.nm ∧ (0 ≤ l.tk ∧ l.tk ≤ nx - 1) ∧ (-1 ≤ l.hd ∧ l.hd ≤ 255) ∧ (0 ≤ l.ex ∧ l.ex ≤ 2000000000) ∧ l.ws.length ≤ 4 ∧ (l.hd = -1 → l.ex = 0 ∧ l.ws.length = 0) ∧ ∀ i, i < l.ws.length → wOK l i
noncomputable instance (nx : Int) (l : Lk) : Decidable (l.OK nx) := Classical.propDecidable _
theorem p46 (l : Lk) (nn : Bool) (nx : Int) (hnx : 0 ≤ nx ∧ nx ≤ 1000000) : Pure En 78 [.agg [.str l.nm, .int .i64 l.tk, .int .i64 l.hd, .int .i64 l.ex, .sl nn (l.ws.map wtT)], .one (.int .i64 nx)] [.one (.bool (decide (l.OK nx)))] := by
  have hl : (l.ws.map wtT).length = l.ws.length := List.length_map ..
  refine Pure.of_wp Try.func78 rfl (Nat.le_of_ble_eq_true rfl) ?_
  refine wSeq ?_
  refine wRegion ?_
  refine rbx (u := .agg [.str _, .int _ _, .int _ _, .int _ _, _]) rfl rfl rfl rfl rfl rfl rfl ?_
  refine raB rfl rfl rfl rfl rfl ?_
  refine rNil ?_
  refine qSeq ?_
  refine wSeq ?_
  refine wSeq ?_
  refine wRegion ?_
  refine rfa (off := 0) (s := 1) (r := false) rfl rfl rfl (Nat.succ_ne_zero _) rfl rfl rfl ?_
  (apply rlc (v := .str _) rfl rfl; (first | ((simp (disch := omega) only [↓app0, ↓appC, ↓updS, ↓updN, ↓hpS, ↓hpN]) <;> first | rfl | assumption) | assumption | rfl); rfl; rfl; rfl; rfl; rfl; rfl)
  refine rclP (p53 _) rfl rfl rfl rfl rfl rfl ?_ ?_ <;> intro h1_2
  · refine rnot (c := true) rfl rfl rfl rfl rfl ?_
    refine rmB rfl rfl rfl rfl rfl ?_
    refine rfa (off := 1) (s := 1) (r := false) rfl rfl rfl (Nat.succ_ne_zero _) rfl rfl rfl ?_
    (apply rlc (v := .int _ _) rfl rfl; (first | ((simp (disch := omega) only [↓app0, ↓appC, ↓updS, ↓updN, ↓hpS, ↓hpN]) <;> first | rfl | assumption) | assumption | rfl); rfl; rfl; rfl; rfl; rfl; rfl)
    refine rmI rfl rfl rfl rfl rfl ?_
    refine rsubF rfl rfl rfl ?_ ?_ rfl rfl rfl ?_
    · (first | omega | assumption | (focus (simp; omega)))
    · (first | omega | assumption | (focus (simp; omega)))
    refine rclP (p45 _ _ _) rfl rfl rfl rfl rfl rfl ?_ ?_ <;> intro h1_9
    · refine rnot (c := true) rfl rfl rfl rfl rfl ?_
      refine rpk (e := false) rfl rfl rfl rfl rfl rfl ?_
      refine rmB rfl rfl rfl rfl rfl ?_
      refine rfa (off := 2) (s := 1) (r := false) rfl rfl rfl (Nat.succ_ne_zero _) rfl rfl rfl ?_
      (apply rlc (v := .int _ _) rfl rfl; (first | ((simp (disch := omega) only [↓app0, ↓appC, ↓updS, ↓updN, ↓hpS, ↓hpN]) <;> first | rfl | assumption) | assumption | rfl); rfl; rfl; rfl; rfl; rfl; rfl)
      refine rclP (p45 _ _ _) rfl rfl rfl rfl rfl rfl ?_ ?_ <;> intro h1_15
      · refine rnot (c := true) rfl rfl rfl rfl rfl ?_
        refine rpk (e := false) rfl rfl rfl rfl rfl rfl ?_
        refine rmB rfl rfl rfl rfl rfl ?_
        refine rfa (off := 3) (s := 1) (r := false) rfl rfl rfl (Nat.succ_ne_zero _) rfl rfl rfl ?_
        (apply rlc (v := .int _ _) rfl rfl; (first | ((simp (disch := omega) only [↓app0, ↓appC, ↓updS, ↓updN, ↓hpS, ↓hpN]) <;> first | rfl | assumption) | assumption | rfl); rfl; rfl; rfl; rfl; rfl; rfl)
        refine rclP (p45 _ _ _) rfl rfl rfl rfl rfl rfl ?_ ?_ <;> intro h1_21
        · refine rnot (c := true) rfl rfl rfl rfl rfl ?_
          refine rpk (e := false) rfl rfl rfl rfl rfl rfl ?_
          refine rmB rfl rfl rfl rfl rfl ?_
          refine rfa (off := 4) (s := 1) (r := false) rfl rfl rfl (Nat.succ_ne_zero _) rfl rfl rfl ?_
          (apply rlc (v := .sl _ _ _) rfl rfl; (first | ((simp (disch := omega) only [↓app0, ↓appC, ↓updS, ↓updN, ↓hpS, ↓hpN]) <;> first | rfl | assumption) | assumption | rfl); rfl; rfl; rfl; rfl; rfl; rfl)
          refine rll rfl rfl rfl rfl rfl rfl ?_
          refine rgt rfl rfl rfl rfl rfl rfl ?_ ?_ <;> intro h1_28
          · refine rpk (e := true) rfl rfl rfl rfl rfl rfl ?_
            refine rNil ?_
            refine qSeq ?_
            refine wT rfl ?_
            refine wSeq ?_
            refine wRegion ?_
            refine raB rfl rfl rfl rfl rfl ?_
            refine rNil ?_
            refine qSeq ?_
            refine wRet ?_
            refine qSeqR ?_
            first
              | exact finT rfl ⟨by assumption, by omega, by assumption, by assumption, by omega, fun hq => by first | exact absurd hq (by assumption) | exact ⟨by omega, by omega⟩, fun j hj => hI.2.1 j (by omega)⟩
              | (refine finF rfl fun hw => ?_; obtain ⟨w1, w2, w3, w4, w5, w6, w7⟩ := hw; first | contradiction | omega | (have := w6 (by assumption); omega) | (obtain ⟨v1, v2, v3, v4⟩ := w7 i (by omega); first | contradiction | exact h8_2 v1 | exact v2 h8_9 | exact h8_14 v3 | (have h := h8_23; simp only [Int.toNat_natCast] at h; have := (wix_lt (ws := l.ws) (i := i) (by omega) rfl).2 v4; omega)))
          · refine rpk (e := false) rfl rfl rfl rfl rfl rfl ?_
            refine rNil ?_
            refine qSeq ?_
            refine wF rfl ?_
            refine wSkip ?_
            refine qSeq ?_
            refine wSeq ?_
            refine wSeq ?_
            refine wRegion ?_
            refine rfa (off := 2) (s := 1) (r := false) rfl rfl rfl (Nat.succ_ne_zero _) rfl rfl rfl ?_
            (apply rlc (v := .int _ _) rfl rfl; (first | ((simp (disch := omega) only [↓app0, ↓appC, ↓updS, ↓updN, ↓hpS, ↓hpN]) <;> first | rfl | assumption) | assumption | rfl); rfl; rfl; rfl; rfl; rfl; rfl)
            refine req rfl rfl rfl rfl rfl rfl ?_ ?_ <;> intro h3_2
            · refine rmB rfl rfl rfl rfl rfl ?_
              refine rfa (off := 3) (s := 1) (r := false) rfl rfl rfl (Nat.succ_ne_zero _) rfl rfl rfl ?_
              (apply rlc (v := .int _ _) rfl rfl; (first | ((simp (disch := omega) only [↓app0, ↓appC, ↓updS, ↓updN, ↓hpS, ↓hpN]) <;> first | rfl | assumption) | assumption | rfl); rfl; rfl; rfl; rfl; rfl; rfl)
              refine rne rfl rfl rfl rfl rfl rfl ?_ ?_ <;> intro h3_6
              · refine rmB rfl rfl rfl rfl rfl ?_
                refine rSkip rfl rfl rfl ?_
                refine rSkip rfl rfl rfl ?_
                refine rSkip rfl rfl rfl ?_
                refine rSkip rfl rfl rfl ?_
                refine rpk (e := true) rfl rfl rfl rfl rfl rfl ?_
                refine rpk (e := true) rfl rfl rfl rfl rfl rfl ?_
                refine rNil ?_
                refine qSeq ?_
                refine wT rfl ?_
                refine wSeq ?_
                refine wRegion ?_
                refine raB rfl rfl rfl rfl rfl ?_
                refine rNil ?_
                refine qSeq ?_
                refine wRet ?_
                refine qSeqR ?_
                first
                  | exact finT rfl ⟨by assumption, by omega, by assumption, by assumption, by omega, fun hq => by first | exact absurd hq (by assumption) | exact ⟨by omega, by omega⟩, fun j hj => hI.2.1 j (by omega)⟩
                  | (refine finF rfl fun hw => ?_; obtain ⟨w1, w2, w3, w4, w5, w6, w7⟩ := hw; first | contradiction | omega | (have := w6 (by assumption); omega) | (obtain ⟨v1, v2, v3, v4⟩ := w7 i (by omega); first | contradiction | exact h8_2 v1 | exact v2 h8_9 | exact h8_14 v3 | (have h := h8_23; simp only [Int.toNat_natCast] at h; have := (wix_lt (ws := l.ws) (i := i) (by omega) rfl).2 v4; omega)))
              · refine rmB rfl rfl rfl rfl rfl ?_
                refine rfa (off := 4) (s := 1) (r := false) rfl rfl rfl (Nat.succ_ne_zero _) rfl rfl rfl ?_
                (apply rlc (v := .sl _ _ _) rfl rfl; (first | ((simp (disch := omega) only [↓app0, ↓appC, ↓updS, ↓updN, ↓hpS, ↓hpN]) <;> first | rfl | assumption) | assumption | rfl); rfl; rfl; rfl; rfl; rfl; rfl)
                refine rll rfl rfl rfl rfl rfl rfl ?_
                refine rgt rfl rfl rfl rfl rfl rfl ?_ ?_ <;> intro h3_11
                · refine rpk (e := true) rfl rfl rfl rfl rfl rfl ?_
                  refine rpk (e := true) rfl rfl rfl rfl rfl rfl ?_
                  refine rNil ?_
                  refine qSeq ?_
                  refine wT rfl ?_
                  refine wSeq ?_
                  refine wRegion ?_
                  refine raB rfl rfl rfl rfl rfl ?_
                  refine rNil ?_
                  refine qSeq ?_
                  refine wRet ?_
                  refine qSeqR ?_
                  first
                    | exact finT rfl ⟨by assumption, by omega, by assumption, by assumption, by omega, fun hq => by first | exact absurd hq (by assumption) | exact ⟨by omega, by omega⟩, fun j hj => hI.2.1 j (by omega)⟩
                    | (refine finF rfl fun hw => ?_; obtain ⟨w1, w2, w3, w4, w5, w6, w7⟩ := hw; first | contradiction | omega | (have := w6 (by assumption); omega) | (obtain ⟨v1, v2, v3, v4⟩ := w7 i (by omega); first | contradiction | exact h8_2 v1 | exact v2 h8_9 | exact h8_14 v3 | (have h := h8_23; simp only [Int.toNat_natCast] at h; have := (wix_lt (ws := l.ws) (i := i) (by omega) rfl).2 v4; omega)))
                · refine rpk (e := false) rfl rfl rfl rfl rfl rfl ?_
                  refine rpk (e := false) rfl rfl rfl rfl rfl rfl ?_
                  refine rNil ?_
                  refine qSeq ?_
                  refine wF rfl ?_
                  refine wSkip ?_
                  refine qSeq ?_
                  refine wSeq ?_
                  refine wSeq ?_
                  refine wRegion ?_
                  refine rfa (off := 4) (s := 1) (r := false) rfl rfl rfl (Nat.succ_ne_zero _) rfl rfl rfl ?_
                  (apply rlc (v := .sl _ _ _) rfl rfl; (first | ((simp (disch := omega) only [↓app0, ↓appC, ↓updS, ↓updN, ↓hpS, ↓hpN]) <;> first | rfl | assumption) | assumption | rfl); rfl; rfl; rfl; rfl; rfl; rfl)
                  refine rll rfl rfl rfl rfl rfl rfl ?_
                  refine rmI rfl rfl rfl rfl rfl ?_
                  refine rNil ?_
                  refine qSeq ?_
                  refine wBlock ?_
                  refine wLoop ?_
                  refine loopGo (fun (a : Nat × Nat) => [.unk, .unk, .ptr 0 0 0, .unk, .unk, .unk, .unk, .unk, .unk, .unk, .unk, .unk, .unk, .unk, .unk, .unk, .unk, .unk, .unk, .unk, .unk, .unk, .unk, .unk, .unk, .unk, .unk, .unk, .unk, .unk, .unk, .unk, .unk, .unk, .unk, .unk, .unk, .unk, .unk, .unk, .unk, .unk, .unk, .unk, .unk, .unk, .unk, .unk, .unk, .unk, .unk, .unk, .sl false nn (l.ws.map wtT), .int .i64 (l.ws.map wtT).length, .int .i64 a.1]) (fun (a : Nat × Nat) => hp [(0, ⟨[[.str l.nm, .int .i64 l.tk, .int .i64 l.hd, .int .i64 l.ex, .sl false nn (l.ws.map wtT)]], 5, 29⟩)]) (fun (a : Nat × Nat) => a.2) (fun (a : Nat × Nat) => a.1 ≤ l.ws.length ∧ (∀ j, j < a.1 → wOK l j) ∧ 1 ≤ a.2) (fun (a : Nat × Nat) => l.ws.length - a.1) (0, 1) ?_ ?_ ?_ ?_ ?_
                  · exact ⟨Nat.zero_le _, all0, Nat.le_refl _⟩
                  · (repeat first | exact LE.nil _ | refine LE.unk _ _ ?_ | refine LE.eq _ _ _ rfl ?_)
                  · (repeat first | exact lessH0 | (refine lessHc ?_ ?_; (first | (first | ((simp (disch := omega) only [↓app0, ↓appC, ↓updS, ↓updN, ↓hpS, ↓hpN]) <;> first | rfl | assumption) | assumption | rfl) | fail)))
                  · exact Nat.le_refl _
                  intro ⟨i, m⟩ hI ih
                  dsimp only at hI ⊢
                  refine lStep ?_
                  refine wSeq ?_
                  refine wRegion ?_
                  refine rlt rfl rfl rfl rfl rfl rfl ?_ ?_ <;> intro h6_0
                  · refine rNil ?_
                    refine qSeq ?_
                    refine wSeq ?_
                    refine wT rfl ?_
                    refine wSkip ?_
                    refine qSeq ?_
                    refine wSeq ?_
                    refine wBlock ?_
                    refine wSeq ?_
                    exfalso; omega
                  · refine rNil ?_
                    refine qSeq ?_
                    refine wSeq ?_
                    refine wF rfl ?_
                    refine wExit ?_
                    refine qSeqX ?_
                    refine qLoopX ?_
                    refine qBlockX ?_
                    refine qSeq ?_
                    refine wSeq ?_
                    refine wRegion ?_
                    refine raB rfl rfl rfl rfl rfl ?_
                    refine rNil ?_
                    refine qSeq ?_
                    refine wRet ?_
                    first
                      | exact finT rfl ⟨by assumption, by omega, by assumption, by assumption, by omega, fun hq => by first | exact absurd hq (by assumption) | exact ⟨by omega, by omega⟩, fun j hj => hI.2.1 j (by omega)⟩
                      | (refine finF rfl fun hw => ?_; obtain ⟨w1, w2, w3, w4, w5, w6, w7⟩ := hw; first | contradiction | omega | (have := w6 (by assumption); omega) | (obtain ⟨v1, v2, v3, v4⟩ := w7 i (by omega); first | contradiction | exact h8_2 v1 | exact v2 h8_9 | exact h8_14 v3 | (have h := h8_23; simp only [Int.toNat_natCast] at h; have := (wix_lt (ws := l.ws) (i := i) (by omega) rfl).2 v4; omega)))
            · refine rmB rfl rfl rfl rfl rfl ?_
              refine rSkip rfl rfl rfl ?_
              refine rSkip rfl rfl rfl ?_
              refine rSkip rfl rfl rfl ?_
              refine rSkip rfl rfl rfl ?_
              refine rSkip rfl rfl rfl ?_
              refine rSkip rfl rfl rfl ?_
              refine rSkip rfl rfl rfl ?_
              refine rSkip rfl rfl rfl ?_
              refine rSkip rfl rfl rfl ?_
              refine rpk (e := false) rfl rfl rfl rfl rfl rfl ?_
              refine rNil ?_
              refine qSeq ?_
              refine wF rfl ?_
              refine wSkip ?_
              refine qSeq ?_
              refine wSeq ?_
              refine wSeq ?_
              refine wRegion ?_
              refine rfa (off := 4) (s := 1) (r := false) rfl rfl rfl (Nat.succ_ne_zero _) rfl rfl rfl ?_
              (apply rlc (v := .sl _ _ _) rfl rfl; (first | ((simp (disch := omega) only [↓app0, ↓appC, ↓updS, ↓updN, ↓hpS, ↓hpN]) <;> first | rfl | assumption) | assumption | rfl); rfl; rfl; rfl; rfl; rfl; rfl)
              refine rll rfl rfl rfl rfl rfl rfl ?_
              refine rmI rfl rfl rfl rfl rfl ?_
              refine rNil ?_
              refine qSeq ?_
              refine wBlock ?_
              refine wLoop ?_
              refine loopGo (fun (a : Nat × Nat) => [.unk, .unk, .ptr 0 0 0, .unk, .unk, .unk, .unk, .unk, .unk, .unk, .unk, .unk, .unk, .unk, .unk, .unk, .unk, .unk, .unk, .unk, .unk, .unk, .unk, .unk, .unk, .unk, .unk, .unk, .unk, .unk, .unk, .unk, .unk, .unk, .unk, .unk, .unk, .unk, .unk, .unk, .unk, .unk, .unk, .unk, .unk, .unk, .unk, .unk, .unk, .unk, .unk, .unk, .sl false nn (l.ws.map wtT), .int .i64 (l.ws.map wtT).length, .int .i64 a.1]) (fun (a : Nat × Nat) => hp [(0, ⟨[[.str l.nm, .int .i64 l.tk, .int .i64 l.hd, .int .i64 l.ex, .sl false nn (l.ws.map wtT)]], 5, 29⟩)]) (fun (a : Nat × Nat) => a.2) (fun (a : Nat × Nat) => a.1 ≤ l.ws.length ∧ (∀ j, j < a.1 → wOK l j) ∧ 1 ≤ a.2) (fun (a : Nat × Nat) => l.ws.length - a.1) (0, 1) ?_ ?_ ?_ ?_ ?_
              · exact ⟨Nat.zero_le _, all0, Nat.le_refl _⟩
              · (repeat first | exact LE.nil _ | refine LE.unk _ _ ?_ | refine LE.eq _ _ _ rfl ?_)
              · (repeat first | exact lessH0 | (refine lessHc ?_ ?_; (first | (first | ((simp (disch := omega) only [↓app0, ↓appC, ↓updS, ↓updN, ↓hpS, ↓hpN]) <;> first | rfl | assumption) | assumption | rfl) | fail)))
              · exact Nat.le_refl _
              intro ⟨i, m⟩ hI ih
              dsimp only at hI ⊢
              refine lStep ?_
              refine wSeq ?_
              refine wRegion ?_
              refine rlt rfl rfl rfl rfl rfl rfl ?_ ?_ <;> intro h6_0
              · refine rNil ?_
                refine qSeq ?_
                refine wSeq ?_
                refine wT rfl ?_
                refine wSkip ?_
                refine qSeq ?_
                refine wSeq ?_
                refine wBlock ?_
                refine wSeq ?_
                refine wRegion ?_
                refine rmI rfl rfl rfl rfl rfl ?_
                (apply rixl rfl rfl rfl rfl; (first | omega | assumption | (focus (simp; omega))); (first | rfl | assumption | (exact getMap wtT (0, 0) (by omega))); rfl; rfl; rfl; rfl)
                refine rlir (vs := [.int _ _, .int _ _]) rfl rfl rfl (Nat.le_of_ble_eq_true rfl) rfl rfl rfl rfl ?_
                refine ral rfl rfl rfl rfl rfl rfl ?_
                refine raI rfl rfl rfl rfl rfl ?_
                (apply rst (u := .agg [.int _ _, .int _ _]) rfl rfl rfl; (first | ((simp (disch := omega) only [↓app0, ↓appC, ↓updS, ↓updN, ↓hpS, ↓hpN]) <;> first | rfl | assumption) | assumption | rfl); rfl; rfl; rfl; rfl; rfl; (exact Nat.le_of_ble_eq_true rfl); rfl; rfl; rfl)
                refine rNil ?_
                refine qSeq ?_
                refine wSeq ?_
                refine wRegion ?_
                refine rfa (off := 0) (s := 1) (r := false) rfl rfl rfl (Nat.succ_ne_zero _) rfl rfl rfl ?_
                (apply rlc (v := .int _ _) rfl rfl; (first | ((simp (disch := omega) only [↓app0, ↓appC, ↓updS, ↓updN, ↓hpS, ↓hpN]) <;> first | rfl | assumption) | assumption | rfl); rfl; rfl; rfl; rfl; rfl; rfl)
                refine rclP (p45 _ _ _) rfl rfl rfl rfl rfl rfl ?_ ?_ <;> intro h8_2
                · refine rnot (c := true) rfl rfl rfl rfl rfl ?_
                  refine rmB rfl rfl rfl rfl rfl ?_
                  refine rfa (off := 0) (s := 1) (r := false) rfl rfl rfl (Nat.succ_ne_zero _) rfl rfl rfl ?_
                  (apply rlc (v := .int _ _) rfl rfl; (first | ((simp (disch := omega) only [↓app0, ↓appC, ↓updS, ↓updN, ↓hpS, ↓hpN]) <;> first | rfl | assumption) | assumption | rfl); rfl; rfl; rfl; rfl; rfl; rfl)
                  refine rfa (off := 2) (s := 1) (r := false) rfl rfl rfl (Nat.succ_ne_zero _) rfl rfl rfl ?_
                  (apply rlc (v := .int _ _) rfl rfl; (first | ((simp (disch := omega) only [↓app0, ↓appC, ↓updS, ↓updN, ↓hpS, ↓hpN]) <;> first | rfl | assumption) | assumption | rfl); rfl; rfl; rfl; rfl; rfl; rfl)
                  refine req rfl rfl rfl rfl rfl rfl ?_ ?_ <;> intro h8_9
                  · refine rpk (e := true) rfl rfl rfl rfl rfl rfl ?_
                    refine rmB rfl rfl rfl rfl rfl ?_
                    refine rSkip rfl rfl rfl ?_
                    refine rSkip rfl rfl rfl ?_
                    refine rSkip rfl rfl rfl ?_
                    refine rSkip rfl rfl rfl ?_
                    refine rpk (e := true) rfl rfl rfl rfl rfl rfl ?_
                    refine rmB rfl rfl rfl rfl rfl ?_
                    refine rSkip rfl rfl rfl ?_
                    refine rSkip rfl rfl rfl ?_
                    refine rSkip rfl rfl rfl ?_
                    refine rSkip rfl rfl rfl ?_
                    refine rSkip rfl rfl rfl ?_
                    refine rSkip rfl rfl rfl ?_
                    refine rpk (e := true) rfl rfl rfl rfl rfl rfl ?_
                    refine rNil ?_
                    refine qSeq ?_
                    refine wT rfl ?_
                    refine wSeq ?_
                    refine wRegion ?_
                    refine raB rfl rfl rfl rfl rfl ?_
                    refine rNil ?_
                    refine qSeq ?_
                    refine wRet ?_
                    refine qBlockR ?_
                    refine qSeqR ?_
                    refine qLoopR ?_
                    refine qBlockR ?_
                    refine qSeqR ?_
                    first
                      | exact finT rfl ⟨by assumption, by omega, by assumption, by assumption, by omega, fun hq => by first | exact absurd hq (by assumption) | exact ⟨by omega, by omega⟩, fun j hj => hI.2.1 j (by omega)⟩
                      | (refine finF rfl fun hw => ?_; obtain ⟨w1, w2, w3, w4, w5, w6, w7⟩ := hw; first | contradiction | omega | (have := w6 (by assumption); omega) | (obtain ⟨v1, v2, v3, v4⟩ := w7 i (by omega); first | contradiction | exact h8_2 v1 | exact v2 h8_9 | exact h8_14 v3 | (have h := h8_23; simp only [Int.toNat_natCast] at h; have := (wix_lt (ws := l.ws) (i := i) (by omega) rfl).2 v4; omega)))
                  · refine rpk (e := false) rfl rfl rfl rfl rfl rfl ?_
                    refine rmB rfl rfl rfl rfl rfl ?_
                    refine rfa (off := 1) (s := 1) (r := false) rfl rfl rfl (Nat.succ_ne_zero _) rfl rfl rfl ?_
                    (apply rlc (v := .int _ _) rfl rfl; (first | ((simp (disch := omega) only [↓app0, ↓appC, ↓updS, ↓updN, ↓hpS, ↓hpN]) <;> first | rfl | assumption) | assumption | rfl); rfl; rfl; rfl; rfl; rfl; rfl)
                    refine rclP (p45 _ _ _) rfl rfl rfl rfl rfl rfl ?_ ?_ <;> intro h8_14
                    · refine rnot (c := true) rfl rfl rfl rfl rfl ?_
                      refine rpk (e := false) rfl rfl rfl rfl rfl rfl ?_
                      refine rmB rfl rfl rfl rfl rfl ?_
                      (apply rlr (vs := [.str _, .int _ _, .int _ _, .int _ _, _]) rfl rfl; (first | ((simp (disch := omega) only [↓app0, ↓appC, ↓updS, ↓updN, ↓hpS, ↓hpN]) <;> first | rfl | assumption) | assumption | rfl); rfl; rfl; (exact Nat.le_of_ble_eq_true rfl); rfl; rfl; rfl; rfl)
                      refine rfa (off := 0) (s := 1) (r := false) rfl rfl rfl (Nat.succ_ne_zero _) rfl rfl rfl ?_
                      (apply rlc (v := .int _ _) rfl rfl; (first | ((simp (disch := omega) only [↓app0, ↓appC, ↓updS, ↓updN, ↓hpS, ↓hpN]) <;> first | rfl | assumption) | assumption | rfl); rfl; rfl; rfl; rfl; rfl; rfl)
                      refine rcl (p66 l nn _ (by omega)) rfl rfl rfl rfl rfl rfl ?_
                      refine rmI rfl rfl rfl rfl rfl ?_
                      refine rlt rfl rfl rfl rfl rfl rfl ?_ ?_ <;> intro h8_23
                      · refine rpk (e := true) rfl rfl rfl rfl rfl rfl ?_
                        refine rNil ?_
                        refine qSeq ?_
                        refine wT rfl ?_
                        refine wSeq ?_
                        refine wRegion ?_
                        refine raB rfl rfl rfl rfl rfl ?_
                        refine rNil ?_
                        refine qSeq ?_
                        refine wRet ?_
                        refine qBlockR ?_
                        refine qSeqR ?_
                        refine qLoopR ?_
                        refine qBlockR ?_
                        refine qSeqR ?_
                        first
                          | exact finT rfl ⟨by assumption, by omega, by assumption, by assumption, by omega, fun hq => by first | exact absurd hq (by assumption) | exact ⟨by omega, by omega⟩, fun j hj => hI.2.1 j (by omega)⟩
                          | (refine finF rfl fun hw => ?_; obtain ⟨w1, w2, w3, w4, w5, w6, w7⟩ := hw; first | contradiction | omega | (have := w6 (by assumption); omega) | (obtain ⟨v1, v2, v3, v4⟩ := w7 i (by omega); first | contradiction | exact h8_2 v1 | exact v2 h8_9 | exact h8_14 v3 | (have h := h8_23; simp only [Int.toNat_natCast] at h; have := (wix_lt (ws := l.ws) (i := i) (by omega) rfl).2 v4; omega)))
                      · refine rpk (e := false) rfl rfl rfl rfl rfl rfl ?_
                        refine rNil ?_
                        refine qSeq ?_
                        refine wF rfl ?_
                        refine wSkip ?_
                        refine qBlock ?_
                        refine qSeq ?_
                        refine wRegion ?_
                        refine raddF rfl rfl rfl ?_ ?_ rfl rfl rfl ?_
                        · (first | omega | assumption | (focus (simp; omega)))
                        · (first | omega | assumption | (focus (simp; omega)))
                        refine rmI rfl rfl rfl rfl rfl ?_
                        refine rNil ?_
                        refine qLoop ?_
                        exact wlH (ih (i + 1, m + 1) ⟨by dsimp only; omega, allS hI.2.1 ⟨h8_2, h8_9, h8_14, (wix_lt (ws := l.ws) (i := i) (by omega) rfl).1 (by have h := h8_23; simp only [Int.toNat_natCast] at h; omega)⟩, by dsimp only; omega⟩ (by dsimp only; omega)) (by (repeat first | exact LE.nil _ | refine LE.unk _ _ ?_ | refine LE.eq _ _ _ rfl ?_)) (by (repeat first | exact lessH0 | (refine lessHc ?_ ?_; (first | (first | ((simp (disch := omega) only [↓app0, ↓appC, ↓updS, ↓updN, ↓hpS, ↓hpN]) <;> first | rfl | assumption) | assumption | rfl) | fail)))) (Nat.le_refl _)
                    · refine rnot (c := false) rfl rfl rfl rfl rfl ?_
                      refine rpk (e := true) rfl rfl rfl rfl rfl rfl ?_
                      refine rmB rfl rfl rfl rfl rfl ?_
                      refine rSkip rfl rfl rfl ?_
                      refine rSkip rfl rfl rfl ?_
                      refine rSkip rfl rfl rfl ?_
                      refine rSkip rfl rfl rfl ?_
                      refine rSkip rfl rfl rfl ?_
                      refine rSkip rfl rfl rfl ?_
                      refine rpk (e := true) rfl rfl rfl rfl rfl rfl ?_
                      refine rNil ?_
                      refine qSeq ?_
                      refine wT rfl ?_
                      refine wSeq ?_
                      refine wRegion ?_
                      refine raB rfl rfl rfl rfl rfl ?_
                      refine rNil ?_
                      refine qSeq ?_
                      refine wRet ?_
                      refine qBlockR ?_
                      refine qSeqR ?_
                      refine qLoopR ?_
                      refine qBlockR ?_
                      refine qSeqR ?_
                      first
                        | exact finT rfl ⟨by assumption, by omega, by assumption, by assumption, by omega, fun hq => by first | exact absurd hq (by assumption) | exact ⟨by omega, by omega⟩, fun j hj => hI.2.1 j (by omega)⟩
                        | (refine finF rfl fun hw => ?_; obtain ⟨w1, w2, w3, w4, w5, w6, w7⟩ := hw; first | contradiction | omega | (have := w6 (by assumption); omega) | (obtain ⟨v1, v2, v3, v4⟩ := w7 i (by omega); first | contradiction | exact h8_2 v1 | exact v2 h8_9 | exact h8_14 v3 | (have h := h8_23; simp only [Int.toNat_natCast] at h; have := (wix_lt (ws := l.ws) (i := i) (by omega) rfl).2 v4; omega)))
                · refine rnot (c := false) rfl rfl rfl rfl rfl ?_
                  refine rmB rfl rfl rfl rfl rfl ?_
                  refine rSkip rfl rfl rfl ?_
                  refine rSkip rfl rfl rfl ?_
                  refine rSkip rfl rfl rfl ?_
                  refine rSkip rfl rfl rfl ?_
                  refine rSkip rfl rfl rfl ?_
                  refine rpk (e := true) rfl rfl rfl rfl rfl rfl ?_
                  refine rmB rfl rfl rfl rfl rfl ?_
                  refine rSkip rfl rfl rfl ?_
                  refine rSkip rfl rfl rfl ?_
                  refine rSkip rfl rfl rfl ?_
                  refine rSkip rfl rfl rfl ?_
                  refine rpk (e := true) rfl rfl rfl rfl rfl rfl ?_
                  refine rmB rfl rfl rfl rfl rfl ?_
                  refine rSkip rfl rfl rfl ?_
                  refine rSkip rfl rfl rfl ?_
                  refine rSkip rfl rfl rfl ?_
                  refine rSkip rfl rfl rfl ?_
                  refine rSkip rfl rfl rfl ?_
                  refine rSkip rfl rfl rfl ?_
                  refine rpk (e := true) rfl rfl rfl rfl rfl rfl ?_
                  refine rNil ?_
                  refine qSeq ?_
                  refine wT rfl ?_
                  refine wSeq ?_
                  refine wRegion ?_
                  refine raB rfl rfl rfl rfl rfl ?_
                  refine rNil ?_
                  refine qSeq ?_
                  refine wRet ?_
                  refine qBlockR ?_
                  refine qSeqR ?_
                  refine qLoopR ?_
                  refine qBlockR ?_
                  refine qSeqR ?_
                  first
                    | exact finT rfl ⟨by assumption, by omega, by assumption, by assumption, by omega, fun hq => by first | exact absurd hq (by assumption) | exact ⟨by omega, by omega⟩, fun j hj => hI.2.1 j (by omega)⟩
                    | (refine finF rfl fun hw => ?_; obtain ⟨w1, w2, w3, w4, w5, w6, w7⟩ := hw; first | contradiction | omega | (have := w6 (by assumption); omega) | (obtain ⟨v1, v2, v3, v4⟩ := w7 i (by omega); first | contradiction | exact h8_2 v1 | exact v2 h8_9 | exact h8_14 v3 | (have h := h8_23; simp only [Int.toNat_natCast] at h; have := (wix_lt (ws := l.ws) (i := i) (by omega) rfl).2 v4; omega)))
              · refine rNil ?_
                refine qSeq ?_
                refine wSeq ?_
                refine wF rfl ?_
                refine wExit ?_
                refine qSeqX ?_
                refine qLoopX ?_
                refine qBlockX ?_
                refine qSeq ?_
                refine wSeq ?_
                refine wRegion ?_
                refine raB rfl rfl rfl rfl rfl ?_
                refine rNil ?_
                refine qSeq ?_
                refine wRet ?_
                first
                  | exact finT rfl ⟨by assumption, by omega, by assumption, by assumption, by omega, fun hq => by first | exact absurd hq (by assumption) | exact ⟨by omega, by omega⟩, fun j hj => hI.2.1 j (by omega)⟩
                  | (refine finF rfl fun hw => ?_; obtain ⟨w1, w2, w3, w4, w5, w6, w7⟩ := hw; first | contradiction | omega | (have := w6 (by assumption); omega) | (obtain ⟨v1, v2, v3, v4⟩ := w7 i (by omega); first | contradiction | exact h8_2 v1 | exact v2 h8_9 | exact h8_14 v3 | (have h := h8_23; simp only [Int.toNat_natCast] at h; have := (wix_lt (ws := l.ws) (i := i) (by omega) rfl).2 v4; omega)))
        · refine rnot (c := false) rfl rfl rfl rfl rfl ?_
          refine rpk (e := true) rfl rfl rfl rfl rfl rfl ?_
          refine rmB rfl rfl rfl rfl rfl ?_
          refine rSkip rfl rfl rfl ?_
          refine rSkip rfl rfl rfl ?_
          refine rSkip rfl rfl rfl ?_
          refine rSkip rfl rfl rfl ?_
          refine rpk (e := true) rfl rfl rfl rfl rfl rfl ?_
          refine rNil ?_
          refine qSeq ?_
          refine wT rfl ?_
          refine wSeq ?_
          refine wRegion ?_
          refine raB rfl rfl rfl rfl rfl ?_
          refine rNil ?_
          refine qSeq ?_
          refine wRet ?_
          refine qSeqR ?_
          first
            | exact finT rfl ⟨by assumption, by omega, by assumption, by assumption, by omega, fun hq => by first | exact absurd hq (by assumption) | exact ⟨by omega, by omega⟩, fun j hj => hI.2.1 j (by omega)⟩
            | (refine finF rfl fun hw => ?_; obtain ⟨w1, w2, w3, w4, w5, w6, w7⟩ := hw; first | contradiction | omega | (have := w6 (by assumption); omega) | (obtain ⟨v1, v2, v3, v4⟩ := w7 i (by omega); first | contradiction | exact h8_2 v1 | exact v2 h8_9 | exact h8_14 v3 | (have h := h8_23; simp only [Int.toNat_natCast] at h; have := (wix_lt (ws := l.ws) (i := i) (by omega) rfl).2 v4; omega)))
      · refine rnot (c := false) rfl rfl rfl rfl rfl ?_
        refine rpk (e := true) rfl rfl rfl rfl rfl rfl ?_
        refine rmB rfl rfl rfl rfl rfl ?_
        refine rSkip rfl rfl rfl ?_
        refine rSkip rfl rfl rfl ?_
        refine rSkip rfl rfl rfl ?_
        refine rSkip rfl rfl rfl ?_
        refine rpk (e := true) rfl rfl rfl rfl rfl rfl ?_
        refine rmB rfl rfl rfl rfl rfl ?_
        refine rSkip rfl rfl rfl ?_
        refine rSkip rfl rfl rfl ?_
        refine rSkip rfl rfl rfl ?_
        refine rSkip rfl rfl rfl ?_
        refine rpk (e := true) rfl rfl rfl rfl rfl rfl ?_
        refine rNil ?_
        refine qSeq ?_
        refine wT rfl ?_
        refine wSeq ?_
        refine wRegion ?_
        refine raB rfl rfl rfl rfl rfl ?_
        refine rNil ?_
        refine qSeq ?_
        refine wRet ?_
        refine qSeqR ?_
        first
          | exact finT rfl ⟨by assumption, by omega, by assumption, by assumption, by omega, fun hq => by first | exact absurd hq (by assumption) | exact ⟨by omega, by omega⟩, fun j hj => hI.2.1 j (by omega)⟩
          | (refine finF rfl fun hw => ?_; obtain ⟨w1, w2, w3, w4, w5, w6, w7⟩ := hw; first | contradiction | omega | (have := w6 (by assumption); omega) | (obtain ⟨v1, v2, v3, v4⟩ := w7 i (by omega); first | contradiction | exact h8_2 v1 | exact v2 h8_9 | exact h8_14 v3 | (have h := h8_23; simp only [Int.toNat_natCast] at h; have := (wix_lt (ws := l.ws) (i := i) (by omega) rfl).2 v4; omega)))
    · refine rnot (c := false) rfl rfl rfl rfl rfl ?_
      refine rpk (e := true) rfl rfl rfl rfl rfl rfl ?_
      refine rmB rfl rfl rfl rfl rfl ?_
      refine rSkip rfl rfl rfl ?_
      refine rSkip rfl rfl rfl ?_
      refine rSkip rfl rfl rfl ?_
      refine rSkip rfl rfl rfl ?_
      refine rpk (e := true) rfl rfl rfl rfl rfl rfl ?_
      refine rmB rfl rfl rfl rfl rfl ?_
      refine rSkip rfl rfl rfl ?_
      refine rSkip rfl rfl rfl ?_
      refine rSkip rfl rfl rfl ?_
      refine rSkip rfl rfl rfl ?_
      refine rpk (e := true) rfl rfl rfl rfl rfl rfl ?_
      refine rmB rfl rfl rfl rfl rfl ?_
      refine rSkip rfl rfl rfl ?_
      refine rSkip rfl rfl rfl ?_
      refine rSkip rfl rfl rfl ?_
      refine rSkip rfl rfl rfl ?_
      refine rpk (e := true) rfl rfl rfl rfl rfl rfl ?_
      refine rNil ?_
      refine qSeq ?_
      refine wT rfl ?_
      refine wSeq ?_
      refine wRegion ?_
      refine raB rfl rfl rfl rfl rfl ?_
      refine rNil ?_
      refine qSeq ?_
      refine wRet ?_
      refine qSeqR ?_
      first
        | exact finT rfl ⟨by assumption, by omega, by assumption, by assumption, by omega, fun hq => by first | exact absurd hq (by assumption) | exact ⟨by omega, by omega⟩, fun j hj => hI.2.1 j (by omega)⟩
        | (refine finF rfl fun hw => ?_; obtain ⟨w1, w2, w3, w4, w5, w6, w7⟩ := hw; first | contradiction | omega | (have := w6 (by assumption); omega) | (obtain ⟨v1, v2, v3, v4⟩ := w7 i (by omega); first | contradiction | exact h8_2 v1 | exact v2 h8_9 | exact h8_14 v3 | (have h := h8_23; simp only [Int.toNat_natCast] at h; have := (wix_lt (ws := l.ws) (i := i) (by omega) rfl).2 v4; omega)))
  · refine rnot (c := false) rfl rfl rfl rfl rfl ?_
    refine rmB rfl rfl rfl rfl rfl ?_
    refine rSkip rfl rfl rfl ?_
    refine rSkip rfl rfl rfl ?_
    refine rSkip rfl rfl rfl ?_
    refine rSkip rfl rfl rfl ?_
    refine rSkip rfl rfl rfl ?_
    refine rSkip rfl rfl rfl ?_
    refine rpk (e := true) rfl rfl rfl rfl rfl rfl ?_
    refine rmB rfl rfl rfl rfl rfl ?_
    refine rSkip rfl rfl rfl ?_
    refine rSkip rfl rfl rfl ?_
    refine rSkip rfl rfl rfl ?_
    refine rSkip rfl rfl rfl ?_
    refine rpk (e := true) rfl rfl rfl rfl rfl rfl ?_
    refine rmB rfl rfl rfl rfl rfl ?_
    refine rSkip rfl rfl rfl ?_
    refine rSkip rfl rfl rfl ?_
    refine rSkip rfl rfl rfl ?_
    refine rSkip rfl rfl rfl ?_
    refine rpk (e := true) rfl rfl rfl rfl rfl rfl ?_
    refine rmB rfl rfl rfl rfl rfl ?_
    refine rSkip rfl rfl rfl ?_
    refine rSkip rfl rfl rfl ?_
    refine rSkip rfl rfl rfl ?_
    refine rSkip rfl rfl rfl ?_
    refine rpk (e := true) rfl rfl rfl rfl rfl rfl ?_
    refine rNil ?_
    refine qSeq ?_
    refine wT rfl ?_
    refine wSeq ?_
    refine wRegion ?_
    refine raB rfl rfl rfl rfl rfl ?_
    refine rNil ?_
    refine qSeq ?_
    refine wRet ?_
    refine qSeqR ?_
    first
      | exact finT rfl ⟨by assumption, by omega, by assumption, by assumption, by omega, fun hq => by first | exact absurd hq (by assumption) | exact ⟨by omega, by omega⟩, fun j hj => hI.2.1 j (by omega)⟩
      | (refine finF rfl fun hw => ?_; obtain ⟨w1, w2, w3, w4, w5, w6, w7⟩ := hw; first | contradiction | omega | (have := w6 (by assumption); omega) | (obtain ⟨v1, v2, v3, v4⟩ := w7 i (by omega); first | contradiction | exact h8_2 v1 | exact v2 h8_9 | exact h8_14 v3 | (have h := h8_23; simp only [Int.toNat_natCast] at h; have := (wix_lt (ws := l.ws) (i := i) (by omega) rfl).2 v4; omega)))
end Go.Proofs.Ytknnniaoboaghaa
