import Derived.Test.YtknnniaoboaghaaA13
namespace Go.Proofs.Ytknnniaoboaghaa
open Go.V
set_option linter.unusedVariables false
set_option linter.unusedSimpArgs false
set_option maxRecDepth 20000
set_option maxHeartbeats 4000000

/-! Time goes on: locks freed and granted. -/
/-- A lock after time went on to tm; the next token then. -/
def gone (tm : Int) (l : Lk) : Prop := l.hd ≠ -1 ∧ l.ex ≤ tm
instance (tm : Int) (l : Lk) : Decidable (gone tm l) := by unfold gone; infer_instance
def exN (tm nx : Int) (l : Lk) : Int := if gone tm l ∧ l.ws ≠ [] then nx + 1 else nx
def exF (tm nx : Int) (l : Lk) : Lk := if gone tm l then (match l.ws with | [] => ⟨l.nm, l.tk, -1, 0, []⟩ | w :: r => ⟨l.nm, nx, w.1, tm + w.2, r⟩) else l
def exP (tm : Int) (l : Lk) : List (List V) := if gone tm l then (l.ws.take 1).map wtV else []
def nxL (tm nx : Int) : List Lk → Int
  | [] => nx
  | l :: r => nxL tm (exN tm nx l) r
theorem nxL_snoc (tm nx : Int) : ∀ (L : List Lk) (l : Lk), nxL tm nx (L ++ [l]) = exN tm (nxL tm nx L) l
  | [], l => rfl
  | a :: r, l => nxL_snoc tm (exN tm nx a) r l
theorem nxL_take {tm nx : Int} {L : List Lk} {i : Nat} (h : i < L.length) : nxL tm nx (L.take (i + 1)) = exN tm (nxL tm nx (L.take i)) (L.getD i Lk0) := by
  have e3 : L.take (i + 1) = L.take i ++ [L.getD i Lk0] := by rw [List.take_add_one]; simp [h]
  rw [e3, nxL_snoc]
def exL (tm nx : Int) (L : List Lk) : List Lk := (List.range L.length).map fun i => exF tm (nxL tm nx (L.take i)) (L.getD i Lk0)
theorem exL_len (tm nx : Int) (L : List Lk) : (exL tm nx L).length = L.length := by simp [exL]
theorem exL_get {tm nx : Int} {L : List Lk} {i : Nat} (h : i < L.length) : (exL tm nx L).getD i Lk0 = exF tm (nxL tm nx (L.take i)) (L.getD i Lk0) := by simp [exL, List.getD_eq_getElem?_getD, h]
/-- A table after time went on. -/
def exT (t : Tb) (now : Int) : Tb := ⟨max t.tm now, nxL (max t.tm now) t.nx t.lk, exL (max t.tm now) t.nx t.lk, t.sn⟩
/-- Rows whose waiters' blocks hold more than they see. -/
def rwP (w : Nat → Nat) (P : Nat → List (List V)) (L : List Lk) (i : Nat) : List V := (L.getD i Lk0).V (.view (w i) (P i).length (L.getD i Lk0).ws.length)
def lkP (w : Nat → Nat) (P : Nat → List (List V)) (L : List Lk) : List (List V) := (List.range L.length).map (rwP w P L)
def wsP (P : Nat → List (List V)) (L : List Lk) (i : Nat) : Option Blk := some ⟨P i ++ (L.getD i Lk0).ws.map wtV, 2, 123⟩
theorem lkP_len (w : Nat → Nat) (P : Nat → List (List V)) (L : List Lk) : (lkP w P L).length = L.length := by simp [lkP]
theorem lkP_get (w : Nat → Nat) (P : Nat → List (List V)) (L : List Lk) {i : Nat} (h : i < L.length) : (lkP w P L)[i]? = some (rwP w P L i) := by simp [lkP, h]
def P0 : Nat → List (List V) := fun _ => []
def mixR (A B : Nat → List V) (m i : Nat) : List (List V) := (List.range m).map fun j => if j < i then A j else B j
theorem mixR_len (A B : Nat → List V) (m i : Nat) : (mixR A B m i).length = m := by simp [mixR]
theorem mixR_get {A B : Nat → List V} {m i j : Nat} (h : j < m) : (mixR A B m i)[j]? = some (if j < i then A j else B j) := by simp [mixR, h]
theorem mixR_at {A B : Nat → List V} {m i : Nat} (h : i < m) {r : List V} (e : B i = r) : (mixR A B m i)[0 + i]? = some r := by rw [Nat.zero_add, mixR_get h, if_neg (Nat.lt_irrefl _), e]
theorem mixR_zero (A B : Nat → List V) (m : Nat) : mixR A B m 0 = (List.range m).map B := by
  unfold mixR; exact List.map_congr_left fun j _ => if_neg (Nat.not_lt_zero _)
theorem mixR_full (A B : Nat → List V) (m : Nat) : mixR A B m m = (List.range m).map A := by
  unfold mixR; exact List.map_congr_left fun j h => if_pos (List.mem_range.1 h)
theorem mixR_set {A B : Nat → List V} {m i : Nat} (h : i < m) {z : List V} (e : A i = z) : (mixR A B m i).set (0 + i) z = mixR A B m (i + 1) := by
  subst e
  apply List.ext_getElem?
  intro j
  rw [Nat.zero_add, List.getElem?_set]
  by_cases hj : j < m
  · rw [mixR_get hj, mixR_get hj]
    by_cases e : i = j
    · subst e; rw [if_pos rfl, if_pos (by rw [mixR_len]; exact h), if_pos (by omega)]
    · rw [if_neg e]
      by_cases h3 : j < i
      · rw [if_pos h3, if_pos (by omega)]
      · rw [if_neg h3, if_neg (by omega)]
  · rw [if_neg (by omega), List.getElem?_eq_none (by rw [mixR_len]; omega), List.getElem?_eq_none (by rw [mixR_len]; omega)]
theorem mixR_same {A B : Nat → List V} {m i : Nat} (e : i < m → A i = B i) : mixR A B m i = mixR A B m (i + 1) := by
  unfold mixR
  refine List.map_congr_left fun j hj => ?_
  have := List.mem_range.1 hj
  by_cases h3 : j < i
  · rw [if_pos h3, if_pos (by omega)]
  · rw [if_neg h3]
    by_cases h4 : j = i
    · subst h4; rw [if_pos (by omega), e this]
    · rw [if_neg (by omega)]
theorem o125 (nm : ByteArray) (tk hd ex tm nx c le : Int) (W Sl Ss : V) (hW : W.cell = true) (ht : 0 ≤ tm ∧ tm ≤ 1000000000) (hn : 0 ≤ nx ∧ nx ≤ 1000000) (hle : 0 ≤ le ∧ le ≤ 1000) {id lb j : Nat} {R : List (List V)} {h : Heap} {n : Nat} (hid : id < n) (hlb : lb < n) (hne : lb ≠ id) (hh : h id = some ⟨[[.int .i64 tm, .int .i64 nx, Sl, Ss]], 4, 35⟩) (hj : j < R.length) (k1 : h lb = some ⟨R, 5, 29⟩) (k2 : R[j]? = some [.str nm, .int .i64 tk, .int .i64 hd, .int .i64 ex, W]) : V.Open En 125 [.ptr id 0 0, .ptr lb j 0, .int .i64 c, .int .i64 le] h n (.tup []) [(lb, some ⟨R.set j [.str nm, .int .i64 nx, .int .i64 c, .int .i64 (tm + le), W], 5, 29⟩), (id, some ⟨[[.int .i64 tm, .int .i64 (nx + 1), Sl, Ss]], 4, 35⟩)] n := by
  refine V.Open.of_wp Try.func125 rfl (Nat.le_of_ble_eq_true rfl) ?_
  refine wSeq ?_
  refine wDraw [0, 0, 0, 0, 0, 16, 48, 112, 0, 256, 768, 1792, 0, 7936, 4089, 20473, 53241, 118779, 249851, 511995, 1048575, 2097151, 4194303] rfl (by decide +kernel) ?_
  refine dmP rfl rfl rfl rfl rfl ?_
  refine dmP rfl rfl rfl rfl rfl ?_
  refine dmP rfl rfl rfl rfl rfl ?_
  refine dmI rfl rfl rfl rfl rfl ?_
  refine dmP rfl rfl rfl rfl rfl ?_
  refine dnc (v := .ptr _ _ _) rfl rfl rfl rfl rfl rfl ?_
  refine dfa (off := 1) (s := 1) (r := false) rfl rfl rfl (Nat.succ_ne_zero _) rfl rfl rfl ?_
  (apply dlc (v := .int _ _) rfl rfl; (first | ((simp (disch := omega) only [↓app0, ↓appC, ↓updS, ↓updN, ↓hpS, ↓hpN]) <;> first | rfl | assumption) | assumption | rfl); (first | rfl | assumption | exact List.getElem?_set_self (by (try simp only [List.length_set]); exact hj)); rfl; rfl; rfl; rfl; rfl)
  refine dmP rfl rfl rfl rfl rfl ?_
  refine dnc (v := .ptr _ _ _) rfl rfl rfl rfl rfl rfl ?_
  refine dfa (off := 0) (s := 1) (r := false) rfl rfl rfl (Nat.succ_ne_zero _) rfl rfl rfl ?_
  (apply dlc (v := .int _ _) rfl rfl; (first | ((simp (disch := omega) only [↓app0, ↓appC, ↓updS, ↓updN, ↓hpS, ↓hpN]) <;> first | rfl | assumption) | assumption | rfl); (first | rfl | assumption | exact List.getElem?_set_self (by (try simp only [List.length_set]); exact hj)); rfl; rfl; rfl; rfl; rfl)
  refine dmI rfl rfl rfl rfl rfl ?_
  refine daddF rfl rfl rfl ?_ ?_ rfl rfl rfl ?_
  · (first | omega | assumption | (focus (simp; omega)))
  · (first | omega | assumption | (focus (simp; omega)))
  refine dnc (v := .ptr _ _ _) rfl rfl rfl rfl rfl rfl ?_
  refine dfa (off := 2) (s := 1) (r := false) rfl rfl rfl (Nat.succ_ne_zero _) rfl rfl rfl ?_
  (apply dst (u := .int _ _) rfl rfl rfl; (first | ((simp (disch := omega) only [↓app0, ↓appC, ↓updS, ↓updN, ↓hpS, ↓hpN]) <;> first | rfl | assumption) | assumption | rfl); (first | rfl | assumption | exact List.getElem?_set_self (by (try simp only [List.length_set]); exact hj)); rfl; rfl; rfl; rfl; (exact Nat.le_of_ble_eq_true rfl); rfl; rfl; rfl)
  refine dnc (v := .ptr _ _ _) rfl rfl rfl rfl rfl rfl ?_
  refine dfa (off := 1) (s := 1) (r := false) rfl rfl rfl (Nat.succ_ne_zero _) rfl rfl rfl ?_
  (apply dst (u := .int _ _) rfl rfl rfl; (first | ((simp (disch := omega) only [↓app0, ↓appC, ↓updS, ↓updN, ↓hpS, ↓hpN]) <;> first | rfl | assumption) | assumption | rfl); (first | rfl | assumption | exact List.getElem?_set_self (by (try simp only [List.length_set]); exact hj)); rfl; rfl; rfl; rfl; (exact Nat.le_of_ble_eq_true rfl); rfl; rfl; rfl)
  refine dnc (v := .ptr _ _ _) rfl rfl rfl rfl rfl rfl ?_
  refine dfa (off := 3) (s := 1) (r := false) rfl rfl rfl (Nat.succ_ne_zero _) rfl rfl rfl ?_
  (apply dst (u := .int _ _) rfl rfl rfl; (first | ((simp (disch := omega) only [↓app0, ↓appC, ↓updS, ↓updN, ↓hpS, ↓hpN]) <;> first | rfl | assumption) | assumption | rfl); (first | rfl | assumption | exact List.getElem?_set_self (by (try simp only [List.length_set]); exact hj)); rfl; rfl; rfl; rfl; (exact Nat.le_of_ble_eq_true rfl); rfl; rfl; rfl)
  refine dNilR 23 [3, 0, 0, 3, 0, 0, 3, 0, 0, 0, 0, 1, 0, 0, 0, 1, 0, 0, 0, 0, 0, 0, 0] [] rfl rfl (by decide +kernel) trivial ?_
  refine qSeq ?_
  refine wRegion ?_
  refine rmP rfl rfl rfl rfl rfl ?_
  refine rnc (v := .ptr _ _ _) rfl rfl rfl rfl rfl rfl ?_
  refine rfa (off := 1) (s := 1) (r := false) rfl rfl rfl (Nat.succ_ne_zero _) rfl rfl rfl ?_
  (apply rlc (v := .int _ _) rfl rfl; (first | ((simp (disch := omega) only [↓app0, ↓appC, ↓updS, ↓updN, ↓hpS, ↓hpN]) <;> first | rfl | assumption) | assumption | rfl); (first | rfl | assumption | exact List.getElem?_set_self (by (try simp only [List.length_set]); exact hj)); rfl; rfl; rfl; rfl; rfl)
  refine raddF rfl rfl rfl ?_ ?_ rfl rfl rfl ?_
  · (first | omega | assumption | (focus (simp; omega)))
  · (first | omega | assumption | (focus (simp; omega)))
  refine rnc (v := .ptr _ _ _) rfl rfl rfl rfl rfl rfl ?_
  refine rfa (off := 1) (s := 1) (r := false) rfl rfl rfl (Nat.succ_ne_zero _) rfl rfl rfl ?_
  (apply rst (u := .int _ _) rfl rfl rfl; (first | ((simp (disch := omega) only [↓app0, ↓appC, ↓updS, ↓updN, ↓hpS, ↓hpN]) <;> first | rfl | assumption) | assumption | rfl); (first | rfl | assumption | exact List.getElem?_set_self (by (try simp only [List.length_set]); exact hj)); rfl; rfl; rfl; rfl; (exact Nat.le_of_ble_eq_true rfl); rfl; rfl; rfl)
  refine rNil ?_
  exact finO rfl rfl (leWr (by
    intro jx hjx
    simp only [List.map_cons, List.map_nil, List.mem_cons, List.not_mem_nil, or_false] at hjx
    rcases hjx with rfl | rfl <;> (simp (disch := omega) only [↓appC, ↓updN, ↓updS, ↓app0]) <;> first | rfl | (focus (simp only [List.set_set]; done)) | (simp only [List.set_set]; rfl)) (fun jx hjx hn => by
    simp only [List.map_cons, List.map_nil, List.mem_cons, List.not_mem_nil, or_false, not_or] at hn
    (simp (disch := omega) only [↓appC, ↓updN, ↓updS, ↓app0]))) (Nat.le_refl _)
theorem o96a (nm : ByteArray) (tk hd ex tm nx : Int) (wb off : Nat) (Sl Ss : V) {id lb j : Nat} {R : List (List V)} {h : Heap} {n : Nat} (hid : id < n) (hlb : lb < n) (hne : lb ≠ id) (hh : h id = some ⟨[[.int .i64 tm, .int .i64 nx, Sl, Ss]], 4, 35⟩) (hj : j < R.length) (k1 : h lb = some ⟨R, 5, 29⟩) (k2 : R[j]? = some [.str nm, .int .i64 tk, .int .i64 hd, .int .i64 ex, .view wb off 0]) : V.Open En 96 [.ptr id 0 0, .ptr lb j 0] h n (.tup []) [(lb, some ⟨R.set j [.str nm, .int .i64 tk, .int .i64 (-1), .int .i64 0, .view wb off 0], 5, 29⟩), (id, some ⟨[[.int .i64 tm, .int .i64 nx, Sl, Ss]], 4, 35⟩)] (n + 1) := by
  refine V.Open.of_wp Try.func96 rfl (Nat.le_of_ble_eq_true rfl) ?_
  refine wSeq ?_
  refine wSeq ?_
  refine wRegion ?_
  refine rmP rfl rfl rfl rfl rfl ?_
  refine rnc (v := .ptr _ _ _) rfl rfl rfl rfl rfl rfl ?_
  refine rfa (off := 4) (s := 1) (r := false) rfl rfl rfl (Nat.succ_ne_zero _) rfl rfl rfl ?_
  (apply rlc (v := .view _ _ _) rfl rfl; (first | ((simp (disch := omega) only [↓app0, ↓appC, ↓updS, ↓updN, ↓hpS, ↓hpN]) <;> first | rfl | assumption) | assumption | rfl); (first | rfl | assumption | exact List.getElem?_set_self (by (try simp only [List.length_set]); exact hj)); rfl; rfl; rfl; rfl; rfl)
  refine rll rfl rfl rfl rfl rfl rfl ?_
  refine req rfl rfl rfl rfl rfl rfl ?_ (fun h => absurd (rfl) h)
  intro h0_5
  refine rNil ?_
  refine qSeq ?_
  refine wT rfl ?_
  refine wSeq ?_
  refine wRegion ?_
  refine rmP rfl rfl rfl rfl rfl ?_
  refine rmP rfl rfl rfl rfl rfl ?_
  refine rnc (v := .ptr _ _ _) rfl rfl rfl rfl rfl rfl ?_
  refine rfa (off := 2) (s := 1) (r := false) rfl rfl rfl (Nat.succ_ne_zero _) rfl rfl rfl ?_
  (apply rst (u := .int _ _) rfl rfl rfl; (first | ((simp (disch := omega) only [↓app0, ↓appC, ↓updS, ↓updN, ↓hpS, ↓hpN]) <;> first | rfl | assumption) | assumption | rfl); (first | rfl | assumption | exact List.getElem?_set_self (by (try simp only [List.length_set]); exact hj)); rfl; rfl; rfl; rfl; (exact Nat.le_of_ble_eq_true rfl); rfl; rfl; rfl)
  refine rnc (v := .ptr _ _ _) rfl rfl rfl rfl rfl rfl ?_
  refine rfa (off := 3) (s := 1) (r := false) rfl rfl rfl (Nat.succ_ne_zero _) rfl rfl rfl ?_
  (apply rst (u := .int _ _) rfl rfl rfl; (first | ((simp (disch := omega) only [↓app0, ↓appC, ↓updS, ↓updN, ↓hpS, ↓hpN]) <;> first | rfl | assumption) | assumption | rfl); (first | rfl | assumption | exact List.getElem?_set_self (by (try simp only [List.length_set]); exact hj)); rfl; rfl; rfl; rfl; (exact Nat.le_of_ble_eq_true rfl); rfl; rfl; rfl)
  refine rNil ?_
  refine qSeq ?_
  refine wRet ?_
  refine qSeqR ?_
  exact finO rfl rfl (leWr (by
    intro jx hjx
    simp only [List.map_cons, List.map_nil, List.mem_cons, List.not_mem_nil, or_false] at hjx
    rcases hjx with rfl | rfl <;> (simp (disch := omega) only [↓appC, ↓updN, ↓updS, ↓app0]) <;> first | rfl | exact hh | (focus (simp only [List.set_set]; done)) | (simp only [List.set_set]; rfl)) (fun jx hjx hn => by
    simp only [List.map_cons, List.map_nil, List.mem_cons, List.not_mem_nil, or_false, not_or] at hn
    (simp (disch := omega) only [↓appC, ↓updN, ↓updS, ↓app0]))) (Nat.le_succ _)
theorem o96b (nm : ByteArray) (tk hd ex tm nx c le : Int) (wb off m : Nat) (Sl Ss : V) (Wb : List (List V)) (ht : 0 ≤ tm ∧ tm ≤ 1000000000) (hn : 0 ≤ nx ∧ nx ≤ 1000000) (hle : 0 ≤ le ∧ le ≤ 1000) {id lb j : Nat} {R : List (List V)} {h : Heap} {n : Nat} (hid : id < n) (hlb : lb < n) (hwb : wb < n) (hne : lb ≠ id) (hwl : wb ≠ lb) (hwi : wb ≠ id) (hh : h id = some ⟨[[.int .i64 tm, .int .i64 nx, Sl, Ss]], 4, 35⟩) (hj : j < R.length) (k1 : h lb = some ⟨R, 5, 29⟩) (k2 : R[j]? = some [.str nm, .int .i64 tk, .int .i64 hd, .int .i64 ex, .view wb off (m + 1)]) (k3 : h wb = some ⟨Wb, 2, 123⟩) (k4 : Wb[off + 0]? = some [.int .i64 c, .int .i64 le]) (k5 : off + (m + 1) ≤ Wb.length) : V.Open En 96 [.ptr id 0 0, .ptr lb j 0] h n (.tup []) [(lb, some ⟨R.set j [.str nm, .int .i64 nx, .int .i64 c, .int .i64 (tm + le), .view wb (off + 1) m], 5, 29⟩), (id, some ⟨[[.int .i64 tm, .int .i64 (nx + 1), Sl, Ss]], 4, 35⟩)] (n + 1) := by
  refine V.Open.of_wp Try.func96 rfl (Nat.le_of_ble_eq_true rfl) ?_
  refine wSeq ?_
  refine wSeq ?_
  refine wRegion ?_
  refine rmP rfl rfl rfl rfl rfl ?_
  refine rnc (v := .ptr _ _ _) rfl rfl rfl rfl rfl rfl ?_
  refine rfa (off := 4) (s := 1) (r := false) rfl rfl rfl (Nat.succ_ne_zero _) rfl rfl rfl ?_
  (apply rlc (v := .view _ _ _) rfl rfl; (first | ((simp (disch := omega) only [↓app0, ↓appC, ↓updS, ↓updN, ↓hpS, ↓hpN]) <;> first | rfl | assumption) | assumption | rfl); (first | rfl | assumption | exact List.getElem?_set_self (by (try simp only [List.length_set]); exact hj)); rfl; rfl; rfl; rfl; rfl)
  refine rll rfl rfl rfl rfl rfl rfl ?_
  refine req rfl rfl rfl rfl rfl rfl (fun h => absurd h ((by show ¬ (((m + 1 : Nat) : Int) = 0); omega))) ?_
  intro h0_5
  refine rNil ?_
  refine qSeq ?_
  refine wF rfl ?_
  refine wSkip ?_
  refine qSeq ?_
  refine wSeq ?_
  refine wRegion ?_
  refine rmP rfl rfl rfl rfl rfl ?_
  refine rnc (v := .ptr _ _ _) rfl rfl rfl rfl rfl rfl ?_
  refine rfa (off := 4) (s := 1) (r := false) rfl rfl rfl (Nat.succ_ne_zero _) rfl rfl rfl ?_
  (apply rlc (v := .view _ _ _) rfl rfl; (first | ((simp (disch := omega) only [↓app0, ↓appC, ↓updS, ↓updN, ↓hpS, ↓hpN]) <;> first | rfl | assumption) | assumption | rfl); (first | rfl | assumption | exact List.getElem?_set_self (by (try simp only [List.length_set]); exact hj)); rfl; rfl; rfl; rfl; rfl)
  (apply rixv rfl rfl rfl rfl; (first | ((simp (disch := omega) only [↓app0, ↓appC, ↓updS, ↓updN, ↓hpS, ↓hpN]) <;> first | rfl | assumption) | assumption | rfl); rfl; (first | omega | assumption | (focus (simp; omega))); (first | omega | assumption | (focus (simp; omega))); rfl; rfl; rfl)
  (apply rlr (vs := [.int _ _, .int _ _]) rfl rfl; (first | ((simp (disch := omega) only [↓app0, ↓appC, ↓updS, ↓updN, ↓hpS, ↓hpN]) <;> first | rfl | assumption) | assumption | rfl); exact k4; rfl; (exact Nat.le_of_ble_eq_true rfl); rfl; rfl; rfl; rfl)
  refine ral rfl rfl rfl rfl rfl rfl ?_
  (apply rst (u := .agg [.int _ _, .int _ _]) rfl rfl rfl; (first | ((simp (disch := omega) only [↓app0, ↓appC, ↓updS, ↓updN, ↓hpS, ↓hpN]) <;> first | rfl | assumption) | assumption | rfl); (first | rfl | assumption | exact List.getElem?_set_self (by (try simp only [List.length_set]); exact hj)); rfl; rfl; rfl; rfl; (exact Nat.le_of_ble_eq_true rfl); rfl; rfl; rfl)
  refine rNil ?_
  refine qSeq ?_
  refine wSeq ?_
  refine wRegion ?_
  refine rmP rfl rfl rfl rfl rfl ?_
  refine rmP rfl rfl rfl rfl rfl ?_
  refine rnc (v := .ptr _ _ _) rfl rfl rfl rfl rfl rfl ?_
  refine rfa (off := 4) (s := 1) (r := false) rfl rfl rfl (Nat.succ_ne_zero _) rfl rfl rfl ?_
  (apply rlc (v := .view _ _ _) rfl rfl; (first | ((simp (disch := omega) only [↓app0, ↓appC, ↓updS, ↓updN, ↓hpS, ↓hpN]) <;> first | rfl | assumption) | assumption | rfl); (first | rfl | assumption | exact List.getElem?_set_self (by (try simp only [List.length_set]); exact hj)); rfl; rfl; rfl; rfl; rfl)
  (apply rslv rfl rfl rfl; (first | ((simp (disch := omega) only [↓app0, ↓appC, ↓updS, ↓updN, ↓hpS, ↓hpN]) <;> first | rfl | assumption) | assumption | rfl); rfl; rfl; rfl; (first | omega | assumption | (focus (simp; omega))); (first | omega | assumption | (focus (simp; omega))); (first | omega | assumption | (focus (simp; omega))); rfl; rfl; rfl)
  refine rnc (v := .ptr _ _ _) rfl rfl rfl rfl rfl rfl ?_
  refine rfa (off := 4) (s := 1) (r := false) rfl rfl rfl (Nat.succ_ne_zero _) rfl rfl rfl ?_
  (apply rst (u := .view _ _ _) rfl rfl rfl; (first | ((simp (disch := omega) only [↓app0, ↓appC, ↓updS, ↓updN, ↓hpS, ↓hpN]) <;> first | rfl | assumption) | assumption | rfl); (first | rfl | assumption | exact List.getElem?_set_self (by (try simp only [List.length_set]); exact hj)); rfl; rfl; rfl; rfl; (exact Nat.le_of_ble_eq_true rfl); rfl; rfl; rfl)
  refine rNil ?_
  refine qSeq ?_
  refine wRegion ?_
  refine rmP rfl rfl rfl rfl rfl ?_
  refine rmP rfl rfl rfl rfl rfl ?_
  refine rfa (off := 0) (s := 1) (r := false) rfl rfl rfl (Nat.succ_ne_zero _) rfl rfl rfl ?_
  (apply rlc (v := .int _ _) rfl rfl; (first | ((simp (disch := omega) only [↓app0, ↓appC, ↓updS, ↓updN, ↓hpS, ↓hpN]) <;> first | rfl | assumption) | assumption | rfl); (first | rfl | assumption | exact List.getElem?_set_self (by (try simp only [List.length_set]); exact hj)); rfl; rfl; rfl; rfl; rfl)
  refine rfa (off := 1) (s := 1) (r := false) rfl rfl rfl (Nat.succ_ne_zero _) rfl rfl rfl ?_
  (apply rlc (v := .int _ _) rfl rfl; (first | ((simp (disch := omega) only [↓app0, ↓appC, ↓updS, ↓updN, ↓hpS, ↓hpN]) <;> first | rfl | assumption) | assumption | rfl); (first | rfl | assumption | exact List.getElem?_set_self (by (try simp only [List.length_set]); exact hj)); rfl; rfl; rfl; rfl; rfl)
  refine rop (o125 nm tk hd ex tm nx c le (.view wb (off + 1) m) Sl Ss rfl ht hn hle (id := id) (lb := lb) (j := j) (R := R.set j [.str nm, .int .i64 tk, .int .i64 hd, .int .i64 ex, .view wb (off + 1) m]) (by omega) (by omega) hne (by (first | ((simp (disch := omega) only [↓app0, ↓appC, ↓updS, ↓updN, ↓hpS, ↓hpN]) <;> first | rfl | assumption) | assumption | rfl)) (by rw [List.length_set]; exact hj) (by (first | ((simp (disch := omega) only [↓app0, ↓appC, ↓updS, ↓updN, ↓hpS, ↓hpN]) <;> first | rfl | assumption) | assumption | rfl)) (List.getElem?_set_self hj)) rfl rfl rfl rfl rfl rfl ?_
  refine rNil ?_
  exact finO rfl rfl (leWr (by
    intro jx hjx
    simp only [List.map_cons, List.map_nil, List.mem_cons, List.not_mem_nil, or_false] at hjx
    rcases hjx with rfl | rfl <;> (simp (disch := omega) only [↓appC, ↓updN, ↓updS, ↓app0]) <;> first | rfl | (focus (simp only [List.set_set]; done)) | (simp only [List.set_set]; rfl)) (fun jx hjx hn => by
    simp only [List.map_cons, List.map_nil, List.mem_cons, List.not_mem_nil, or_false, not_or] at hn
    (simp (disch := omega) only [↓appC, ↓updN, ↓updS, ↓app0]))) (by omega)
/-- A lock that is gone is freed. -/
theorem o96 (l : Lk) (tm nx : Int) (wb : Nat) (Sl Ss : V) (hg : gone tm l) (hw : ∀ i, i < l.ws.length → 1 ≤ (l.ws.getD i (0, 0)).2 ∧ (l.ws.getD i (0, 0)).2 ≤ 1000) (ht : 0 ≤ tm ∧ tm ≤ 1000000000) (hn : 0 ≤ nx ∧ nx ≤ 1000000) {id lb j : Nat} {R : List (List V)} {h : Heap} {n : Nat} (hid : id < n) (hlb : lb < n) (hwb : wb < n) (hne : lb ≠ id) (hwl : wb ≠ lb) (hwi : wb ≠ id) (hh : h id = some ⟨[[.int .i64 tm, .int .i64 nx, Sl, Ss]], 4, 35⟩) (hj : j < R.length) (k1 : h lb = some ⟨R, 5, 29⟩) (k2 : R[j]? = some (l.V (.view wb 0 l.ws.length))) (k3 : h wb = some ⟨l.ws.map wtV, 2, 123⟩) :
    V.Open En 96 [.ptr id 0 0, .ptr lb j 0] h n (.tup []) [(lb, some ⟨R.set j ((exF tm nx l).V (.view wb (exP tm l).length (exF tm nx l).ws.length)), 5, 29⟩), (id, some ⟨[[.int .i64 tm, .int .i64 (exN tm nx l), Sl, Ss]], 4, 35⟩)] (n + 1) := by
  obtain ⟨nm, tk, hd, ex, ws⟩ := l
  have hg' : gone tm ⟨nm, tk, hd, ex, ws⟩ := hg
  unfold exF exP exN
  rw [if_pos hg', if_pos hg']
  cases ws with
  | nil =>
    rw [if_neg (fun e => e.2 rfl)]
    exact o96a nm tk hd ex tm nx wb 0 Sl Ss hid hlb hne hh hj k1 k2
  | cons a r =>
    rw [if_pos ⟨hg', by simp⟩]
    have hw0 := hw 0 (by simp)
    simp only [List.getD_eq_getElem?_getD, List.getElem?_cons_zero, Option.getD_some] at hw0
    exact o96b nm tk hd ex tm nx a.1 a.2 wb 0 r.length Sl Ss ((a :: r).map wtV) ht hn ⟨by omega, hw0.2⟩ hid hlb hwb hne hwl hwi hh hj k1 k2 k3 rfl (by simp)
end Go.Proofs.Ytknnniaoboaghaa
