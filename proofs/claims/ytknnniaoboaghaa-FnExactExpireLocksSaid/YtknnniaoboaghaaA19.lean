import Derived.Test.YtknnniaoboaghaaA18
import Derived.Test.YtknnniaoboaghaaA17
namespace Go.Proofs.Ytknnniaoboaghaa
open Go.V
set_option linter.unusedVariables false
set_option linter.unusedSimpArgs false
set_option maxRecDepth 20000
set_option maxHeartbeats 4000000

/-! spec's locks freed and granted. -/
theorem wlG {E : Env} {sz : Nat} {k : Code} {t : Nat → V} {h : Heap} {n : Nat} {Q : Post} (w : ∀ g, g = h → WL E sz k t g n Q) : WL E sz k t h n Q := w h rfl
theorem takeR (a : Wt) (r : List Wt) : (((a :: r).map wtV).drop 1).take r.length = r.map wtV := by
  simp only [List.map_cons, List.drop_succ_cons, List.drop_zero]; rw [List.take_of_length_le (by simp)]
theorem lenWtR (r : List Wt) : ∀ c ∈ r.map wtV, c.length = 2 := fun c hc => by
  obtain ⟨a, _, rfl⟩ := List.mem_map.1 hc; rfl
theorem lenR (r : List Wt) : 0 + (r.map wtV).length = r.length := by simp
theorem s132 (a b : Int) (ha : 0 ≤ a ∧ a ≤ 1000000000) (hb : 0 ≤ b ∧ b ≤ 1000) : Pure En 132 [.one (.int .i64 a), .one (.int .i64 b)] [.one (.int .i64 (a + b))] := by
  refine Pure.of_wp Try.func132 rfl (Nat.le_of_ble_eq_true rfl) ?_
  refine wSeq ?_
  refine wRegion ?_
  refine raI rfl rfl rfl rfl rfl ?_
  refine rNil ?_
  refine qSeq ?_
  refine wSeq ?_
  refine wRegion ?_
  refine rmI rfl rfl rfl rfl rfl ?_
  refine rmax rfl rfl rfl rfl rfl rfl ?_
  refine raI rfl rfl rfl rfl rfl ?_
  refine rNil ?_
  refine qSeq ?_
  refine wSeq ?_
  refine wRegion ?_
  refine rmI rfl rfl rfl rfl rfl ?_
  refine rmax rfl rfl rfl rfl rfl rfl ?_
  refine raI rfl rfl rfl rfl rfl ?_
  refine rNil ?_
  refine qSeq ?_
  refine wSeq ?_
  refine wSeq ?_
  refine wRegion ?_
  refine rmI rfl rfl rfl rfl rfl ?_
  refine rmI rfl rfl rfl rfl rfl ?_
  refine rsubF rfl rfl rfl ?_ ?_ rfl rfl rfl ?_
  · (first | omega | assumption)
  · (first | omega | assumption)
  refine rgt rfl rfl rfl rfl rfl rfl (fun h => absurd h (by omega)) ?_
  intro h3_3
  refine rNil ?_
  refine qSeq ?_
  refine wF rfl ?_
  refine wSkip ?_
  refine qSeq ?_
  refine wSeq ?_
  refine wRegion ?_
  refine rmI rfl rfl rfl rfl rfl ?_
  refine rmI rfl rfl rfl rfl rfl ?_
  refine raddF rfl rfl rfl ?_ ?_ rfl rfl rfl ?_
  · (first | omega | assumption)
  · (first | omega | assumption)
  refine raI rfl rfl rfl rfl rfl ?_
  refine rNil ?_
  refine qSeq ?_
  refine wRet ?_
  exact finE rfl rfl (by rw [show max a 0 = a by omega, show max b 0 = b by omega])
theorem o124 (nm : ByteArray) (tk hd ex tm nx c le : Int) (W Ss : V) (hW : W.cell = true) (ht : 0 ≤ tm ∧ tm ≤ 1000000000) (hn : 0 ≤ nx ∧ nx ≤ 999999) (hle : 0 ≤ le ∧ le ≤ 1000) {id lb j len : Nat} {R : List (List V)} {h : Heap} {n : Nat} (hid : id < n) (hlb : lb < n) (hne : lb ≠ id) (hh : h id = some ⟨[[.int .i64 tm, .int .i64 nx, .view lb 0 len, Ss]], 4, 35⟩) (hjl : j < len) (hj : 0 + j < R.length) (k1 : h lb = some ⟨R, 5, 29⟩) (k2 : R[0 + j]? = some [.str nm, .int .i64 tk, .int .i64 hd, .int .i64 ex, W]) : V.Open En 124 [.ptr id 0 0, .int .i64 j, .int .i64 c, .int .i64 le] h n (.tup []) [(lb, some ⟨R.set (0 + j) [.str nm, .int .i64 nx, .int .i64 c, .int .i64 (tm + le), W], 5, 29⟩), (id, some ⟨[[.int .i64 tm, .int .i64 (nx + 1), .view lb 0 len, Ss]], 4, 35⟩)] n := by
  refine V.Open.of_wp Try.func124 rfl (Nat.le_of_ble_eq_true rfl) ?_
  refine wSeq ?_
  refine wRegion ?_
  refine rmP rfl rfl rfl rfl rfl ?_
  refine rnc (v := .ptr _ _ _) rfl rfl rfl rfl rfl rfl ?_
  refine rfa (off := 2) (s := 1) (r := false) rfl rfl rfl (Nat.succ_ne_zero _) rfl rfl rfl ?_
  (apply rlc (v := .view _ _ _) rfl rfl; (first | ((simp (disch := omega) only [↓app0, ↓appC, ↓updS, ↓updN, ↓hpS, ↓hpN]) <;> first | rfl | assumption) | assumption | rfl); (first | rfl | assumption | exact List.getElem?_set_self (by (try simp only [List.length_set]); exact hj)); rfl; rfl; rfl; rfl; rfl)
  refine rmI rfl rfl rfl rfl rfl ?_
  refine rmI rfl rfl rfl rfl rfl ?_
  (apply rixv rfl rfl rfl rfl; (first | ((simp (disch := omega) only [↓app0, ↓appC, ↓updS, ↓updN, ↓hpS, ↓hpN]) <;> first | rfl | assumption) | assumption | rfl); rfl; (first | omega | assumption | (focus (simp; omega))); (first | omega | assumption | (focus (simp; omega))); rfl; rfl; rfl)
  refine rfa (off := 2) (s := 1) (r := false) rfl rfl rfl (Nat.succ_ne_zero _) rfl rfl rfl ?_
  (apply rst (u := .int _ _) rfl rfl rfl; (first | ((simp (disch := omega) only [↓app0, ↓appC, ↓updS, ↓updN, ↓hpS, ↓hpN]) <;> first | rfl | assumption) | assumption | rfl); (first | rfl | assumption | exact List.getElem?_set_self (by (try simp only [List.length_set]); exact hj)); rfl; rfl; rfl; rfl; (exact Nat.le_of_ble_eq_true rfl); rfl; rfl; rfl)
  refine rNil ?_
  refine qSeq ?_
  refine wSeq ?_
  refine wDraw [0, 1, 3, 7, 0, 0, 32, 96, 224, 511, 1023, 2047] rfl (by decide +kernel) ?_
  refine dmP rfl rfl rfl rfl rfl ?_
  refine dnc (v := .ptr _ _ _) rfl rfl rfl rfl rfl rfl ?_
  refine dfa (off := 2) (s := 1) (r := false) rfl rfl rfl (Nat.succ_ne_zero _) rfl rfl rfl ?_
  (apply dlc (v := .view _ _ _) rfl rfl; (first | ((simp (disch := omega) only [↓app0, ↓appC, ↓updS, ↓updN, ↓hpS, ↓hpN]) <;> first | rfl | assumption) | assumption | rfl); (first | rfl | assumption | exact List.getElem?_set_self (by (try simp only [List.length_set]); exact hj)); rfl; rfl; rfl; rfl; rfl)
  refine dmI rfl rfl rfl rfl rfl ?_
  refine dmP rfl rfl rfl rfl rfl ?_
  refine dnc (v := .ptr _ _ _) rfl rfl rfl rfl rfl rfl ?_
  refine dfa (off := 1) (s := 1) (r := false) rfl rfl rfl (Nat.succ_ne_zero _) rfl rfl rfl ?_
  (apply dlc (v := .int _ _) rfl rfl; (first | ((simp (disch := omega) only [↓app0, ↓appC, ↓updS, ↓updN, ↓hpS, ↓hpN]) <;> first | rfl | assumption) | assumption | rfl); (first | rfl | assumption | exact List.getElem?_set_self (by (try simp only [List.length_set]); exact hj)); rfl; rfl; rfl; rfl; rfl)
  (apply dixv rfl rfl rfl rfl; (first | ((simp (disch := omega) only [↓app0, ↓appC, ↓updS, ↓updN, ↓hpS, ↓hpN]) <;> first | rfl | assumption) | assumption | rfl); rfl; (first | omega | assumption | (focus (simp; omega))); (first | omega | assumption | (focus (simp; omega))); rfl; rfl; rfl)
  refine dfa (off := 1) (s := 1) (r := false) rfl rfl rfl (Nat.succ_ne_zero _) rfl rfl rfl ?_
  (apply dst (u := .int _ _) rfl rfl rfl; (first | ((simp (disch := omega) only [↓app0, ↓appC, ↓updS, ↓updN, ↓hpS, ↓hpN]) <;> first | rfl | assumption) | assumption | rfl); (first | rfl | assumption | exact List.getElem?_set_self (by (try simp only [List.length_set]); exact hj)); rfl; rfl; rfl; rfl; (exact Nat.le_of_ble_eq_true rfl); rfl; rfl; rfl)
  refine dNilR 12 [3, 0, 1, 1, 0, 0, 0, 0, 1, 0, 0, 0] [] rfl rfl (by decide +kernel) trivial ?_
  refine qSeq ?_
  refine wSeq ?_
  refine wDraw [0, 1, 3, 7, 0, 0, 32, 96, 224, 0, 992, 2047, 4095, 8191] rfl (by decide +kernel) ?_
  refine dmP rfl rfl rfl rfl rfl ?_
  refine dnc (v := .ptr _ _ _) rfl rfl rfl rfl rfl rfl ?_
  refine dfa (off := 2) (s := 1) (r := false) rfl rfl rfl (Nat.succ_ne_zero _) rfl rfl rfl ?_
  (apply dlc (v := .view _ _ _) rfl rfl; (first | ((simp (disch := omega) only [↓app0, ↓appC, ↓updS, ↓updN, ↓hpS, ↓hpN]) <;> first | rfl | assumption) | assumption | rfl); (first | rfl | assumption | exact List.getElem?_set_self (by (try simp only [List.length_set]); exact hj)); rfl; rfl; rfl; rfl; rfl)
  refine dmI rfl rfl rfl rfl rfl ?_
  refine dmP rfl rfl rfl rfl rfl ?_
  refine dnc (v := .ptr _ _ _) rfl rfl rfl rfl rfl rfl ?_
  refine dfa (off := 0) (s := 1) (r := false) rfl rfl rfl (Nat.succ_ne_zero _) rfl rfl rfl ?_
  (apply dlc (v := .int _ _) rfl rfl; (first | ((simp (disch := omega) only [↓app0, ↓appC, ↓updS, ↓updN, ↓hpS, ↓hpN]) <;> first | rfl | assumption) | assumption | rfl); (first | rfl | assumption | exact List.getElem?_set_self (by (try simp only [List.length_set]); exact hj)); rfl; rfl; rfl; rfl; rfl)
  refine dmI rfl rfl rfl rfl rfl ?_
  refine dcl (s132 tm le ht hle) rfl rfl rfl rfl rfl rfl ?_
  (apply dixv rfl rfl rfl rfl; (first | ((simp (disch := omega) only [↓app0, ↓appC, ↓updS, ↓updN, ↓hpS, ↓hpN]) <;> first | rfl | assumption) | assumption | rfl); rfl; (first | omega | assumption | (focus (simp; omega))); (first | omega | assumption | (focus (simp; omega))); rfl; rfl; rfl)
  refine dfa (off := 3) (s := 1) (r := false) rfl rfl rfl (Nat.succ_ne_zero _) rfl rfl rfl ?_
  (apply dst (u := .int _ _) rfl rfl rfl; (first | ((simp (disch := omega) only [↓app0, ↓appC, ↓updS, ↓updN, ↓hpS, ↓hpN]) <;> first | rfl | assumption) | assumption | rfl); (first | rfl | assumption | exact List.getElem?_set_self (by (try simp only [List.length_set]); exact hj)); rfl; rfl; rfl; rfl; (exact Nat.le_of_ble_eq_true rfl); rfl; rfl; rfl)
  refine dNilR 14 [3, 0, 1, 0, 0, 1, 0, 0, 0, 0, 1, 0, 0, 0] [] rfl rfl (by decide +kernel) trivial ?_
  refine qSeq ?_
  refine wRegion ?_
  refine rmP rfl rfl rfl rfl rfl ?_
  refine rmP rfl rfl rfl rfl rfl ?_
  refine rnc (v := .ptr _ _ _) rfl rfl rfl rfl rfl rfl ?_
  refine rfa (off := 1) (s := 1) (r := false) rfl rfl rfl (Nat.succ_ne_zero _) rfl rfl rfl ?_
  (apply rlc (v := .int _ _) rfl rfl; (first | ((simp (disch := omega) only [↓app0, ↓appC, ↓updS, ↓updN, ↓hpS, ↓hpN]) <;> first | rfl | assumption) | assumption | rfl); (first | rfl | assumption | exact List.getElem?_set_self (by (try simp only [List.length_set]); exact hj)); rfl; rfl; rfl; rfl; rfl)
  refine raddF rfl rfl rfl ?_ ?_ rfl rfl rfl ?_
  · (first | omega | assumption | (focus (simp; omega)))
  · (first | omega | assumption | (focus (simp; omega)))
  (refine r0 ((op_min rfl rfl rfl).to (v' := .int .i64 (nx + 1)) (by rw [show min (1000000 : Int) (nx + 1) = nx + 1 by omega])) rfl rfl rfl ?_)
  refine rnc (v := .ptr _ _ _) rfl rfl rfl rfl rfl rfl ?_
  refine rfa (off := 1) (s := 1) (r := false) rfl rfl rfl (Nat.succ_ne_zero _) rfl rfl rfl ?_
  (apply rst (u := .int _ _) rfl rfl rfl; (first | ((simp (disch := omega) only [↓app0, ↓appC, ↓updS, ↓updN, ↓hpS, ↓hpN]) <;> first | rfl | assumption) | assumption | rfl); (first | rfl | assumption | exact List.getElem?_set_self (by (try simp only [List.length_set]); exact hj)); rfl; rfl; rfl; rfl; (exact Nat.le_of_ble_eq_true rfl); rfl; rfl; rfl)
  refine rNil ?_
  exact finO rfl rfl (leWr (by
    intro jx hjx
    simp only [List.map_cons, List.map_nil, List.mem_cons, List.not_mem_nil, or_false] at hjx
    rcases hjx with rfl | rfl <;> (simp (disch := omega) only [↓appC, ↓updN, ↓updS, ↓app0]) <;> first | rfl | (focus (simp only [List.set_set]; done)) | (simp only [List.set_set]; rfl)) (fun jx hjx hn => by
    simp only [List.map_cons, List.map_nil, List.mem_cons, List.not_mem_nil, or_false, not_or] at hn
    (simp (disch := omega) only [↓appC, ↓updN, ↓updS, ↓app0]))) (Nat.le_refl _)
theorem o95b (nm : ByteArray) (tk hd ex tm nx c le : Int) (wb : Nat) (r : List Wt) (Ss : V) (hr : r.length ≤ 1000) (ht : 0 ≤ tm ∧ tm ≤ 1000000000) (hn : 0 ≤ nx ∧ nx ≤ 999999) (hle : 0 ≤ le ∧ le ≤ 1000) {id lb j len : Nat} {R : List (List V)} {h : Heap} {n : Nat} (hid : id < n) (hlb : lb < n) (hne : lb ≠ id) (hh : h id = some ⟨[[.int .i64 tm, .int .i64 nx, .view lb 0 len, Ss]], 4, 35⟩) (hjl : j < len) (hj : 0 + j < R.length) (k1 : h lb = some ⟨R, 5, 29⟩) (hwb : wb < n) (hwl : wb ≠ lb) (hwi : wb ≠ id) (k2 : R[0 + j]? = some [.str nm, .int .i64 tk, .int .i64 hd, .int .i64 ex, .view wb 0 (r.length + 1)]) (k3 : h wb = some ⟨((c, le) :: r).map wtV, 2, 123⟩) : V.Open En 95 [.ptr id 0 0, .int .i64 j] h n (.tup []) [(lb, some ⟨R.set (0 + j) [.str nm, .int .i64 nx, .int .i64 c, .int .i64 (tm + le), .view (n + 2) 0 r.length], 5, 29⟩), (id, some ⟨[[.int .i64 tm, .int .i64 (nx + 1), .view lb 0 len, Ss]], 4, 35⟩), (n + 2, some ⟨r.map wtV, 2, 123⟩)] (n + 3) := by
  refine V.Open.of_wp Try.func95 rfl (Nat.le_of_ble_eq_true rfl) ?_
  refine wSeq ?_
  refine wRegion ?_
  refine rmP rfl rfl rfl rfl rfl ?_
  refine rnc (v := .ptr _ _ _) rfl rfl rfl rfl rfl rfl ?_
  refine rfa (off := 2) (s := 1) (r := false) rfl rfl rfl (Nat.succ_ne_zero _) rfl rfl rfl ?_
  (apply rlc (v := .view _ _ _) rfl rfl; (first | ((simp (disch := omega) only [↓app0, ↓appC, ↓updS, ↓updN, ↓hpS, ↓hpN]) <;> first | rfl | assumption) | assumption | rfl); (first | rfl | assumption | exact List.getElem?_set_self (by (try simp only [List.length_set]); exact hj)); rfl; rfl; rfl; rfl; rfl)
  refine rmI rfl rfl rfl rfl rfl ?_
  (apply rixv rfl rfl rfl rfl; (first | ((simp (disch := omega) only [↓app0, ↓appC, ↓updS, ↓updN, ↓hpS, ↓hpN]) <;> first | rfl | assumption) | assumption | rfl); rfl; (first | omega | assumption | (focus (simp; omega))); (first | omega | assumption | (focus (simp; omega))); rfl; rfl; rfl)
  refine raP rfl rfl rfl rfl rfl ?_
  refine rNil ?_
  refine qSeq ?_
  refine wSeq ?_
  refine wSeq ?_
  refine wRegion ?_
  refine rmP rfl rfl rfl rfl rfl ?_
  refine rnc (v := .ptr _ _ _) rfl rfl rfl rfl rfl rfl ?_
  refine rfa (off := 4) (s := 1) (r := false) rfl rfl rfl (Nat.succ_ne_zero _) rfl rfl rfl ?_
  (apply rlc (v := .view _ _ _) rfl rfl; (first | ((simp (disch := omega) only [↓app0, ↓appC, ↓updS, ↓updN, ↓hpS, ↓hpN]) <;> first | rfl | assumption) | assumption | rfl); (first | rfl | assumption | exact List.getElem?_set_self (by (try simp only [List.length_set]); exact hj)); rfl; rfl; rfl; rfl; rfl)
  refine rll rfl rfl rfl rfl rfl rfl ?_
  refine req rfl rfl rfl rfl rfl rfl (fun h => absurd h ((by show ¬ (((r.length + 1 : Nat) : Int) = 0); omega))) ?_
  intro h1_5
  refine rNil ?_
  refine qSeq ?_
  refine wF rfl ?_
  refine wSkip ?_
  refine qSeq ?_
  refine wSeq ?_
  refine wRegion ?_
  refine rmP rfl rfl rfl rfl rfl ?_
  refine rnc (v := .ptr _ _ _) rfl rfl rfl rfl rfl rfl ?_
  refine rfa (off := 4) (s := 1) (r := false) rfl rfl rfl (Nat.succ_ne_zero _) rfl rfl rfl ?_
  (apply rlc (v := .view _ _ _) rfl rfl; (first | ((simp (disch := omega) only [↓app0, ↓appC, ↓updS, ↓updN, ↓hpS, ↓hpN]) <;> first | rfl | assumption) | assumption | rfl); (first | rfl | assumption | exact List.getElem?_set_self (by (try simp only [List.length_set]); exact hj)); rfl; rfl; rfl; rfl; rfl)
  (apply rixv rfl rfl rfl rfl; (first | ((simp (disch := omega) only [↓app0, ↓appC, ↓updS, ↓updN, ↓hpS, ↓hpN]) <;> first | rfl | assumption) | assumption | rfl); rfl; (first | omega | assumption | (focus (simp; omega))); (first | omega | assumption | (focus (simp; omega))); rfl; rfl; rfl)
  (apply rlr (vs := [.int _ _, .int _ _]) rfl rfl; (first | ((simp (disch := omega) only [↓app0, ↓appC, ↓updS, ↓updN, ↓hpS, ↓hpN]) <;> first | rfl | assumption) | assumption | rfl); rfl; rfl; (exact Nat.le_of_ble_eq_true rfl); rfl; rfl; rfl; rfl)
  refine ral rfl rfl rfl rfl rfl rfl ?_
  (apply rst (u := .agg [.int _ _, .int _ _]) rfl rfl rfl; (first | ((simp (disch := omega) only [↓app0, ↓appC, ↓updS, ↓updN, ↓hpS, ↓hpN]) <;> first | rfl | assumption) | assumption | rfl); (first | rfl | assumption | exact List.getElem?_set_self (by (try simp only [List.length_set]); exact hj)); rfl; rfl; rfl; rfl; (exact Nat.le_of_ble_eq_true rfl); rfl; rfl; rfl)
  refine rNil ?_
  refine qSeq ?_
  refine wSeq ?_
  refine wRegion ?_
  refine rmP rfl rfl rfl rfl rfl ?_
  refine rbs (es := []) rfl rfl rfl rfl (Nat.succ_ne_zero _) (Nat.le_of_ble_eq_true rfl) rfl rfl rfl rfl rfl ?_
  refine rmP rfl rfl rfl rfl rfl ?_
  refine rnc (v := .ptr _ _ _) rfl rfl rfl rfl rfl rfl ?_
  refine rfa (off := 4) (s := 1) (r := false) rfl rfl rfl (Nat.succ_ne_zero _) rfl rfl rfl ?_
  (apply rlc (v := .view _ _ _) rfl rfl; (first | ((simp (disch := omega) only [↓app0, ↓appC, ↓updS, ↓updN, ↓hpS, ↓hpN]) <;> first | rfl | assumption) | assumption | rfl); (first | rfl | assumption | exact List.getElem?_set_self (by (try simp only [List.length_set]); exact hj)); rfl; rfl; rfl; rfl; rfl)
  (apply rslv rfl rfl rfl; (first | ((simp (disch := omega) only [↓app0, ↓appC, ↓updS, ↓updN, ↓hpS, ↓hpN]) <;> first | rfl | assumption) | assumption | rfl); rfl; rfl; rfl; (first | omega | assumption | (focus (simp; omega))); (first | omega | assumption | (focus (simp; omega))); (first | omega | assumption | (focus (simp; omega))); rfl; rfl; rfl)
  (apply rap (s' := 16) rfl rfl; (first | ((simp (disch := omega) only [↓app0, ↓appC, ↓updS, ↓updN, ↓hpS, ↓hpN]) <;> first | rfl | assumption) | assumption | rfl); rfl; rfl; rfl; rfl; rfl; exact (Nat.succ_ne_zero _); (apply srcView rfl; (first | ((simp (disch := omega) only [↓app0, ↓appC, ↓updS, ↓updN, ↓hpS, ↓hpN]) <;> first | rfl | assumption) | assumption | rfl); (show 1 + _ ≤ (List.map wtV _).length; simp; omega); exact takeR ⟨c, le⟩ r); exact lenWtR r; (first | (show (0 + (r.map wtV).length) * _ ≤ _; rw [lenR]; omega) | (show 0 + (r.map wtV).length ≤ _; rw [lenR]; omega)); (first | (show (0 + (r.map wtV).length) * _ ≤ _; rw [lenR]; omega) | (show 0 + (r.map wtV).length ≤ _; rw [lenR]; omega)); rfl; rfl; rfl)
  refine rnc (v := .ptr _ _ _) rfl rfl rfl rfl rfl rfl ?_
  refine rfa (off := 4) (s := 1) (r := false) rfl rfl rfl (Nat.succ_ne_zero _) rfl rfl rfl ?_
  (apply rst (u := .view _ _ _) rfl rfl rfl; (first | ((simp (disch := omega) only [↓app0, ↓appC, ↓updS, ↓updN, ↓hpS, ↓hpN]) <;> first | rfl | assumption) | assumption | rfl); (first | rfl | assumption | exact List.getElem?_set_self (by (try simp only [List.length_set]); exact hj)); rfl; rfl; rfl; rfl; (exact Nat.le_of_ble_eq_true rfl); rfl; rfl; rfl)
  refine rNil ?_
  refine qSeq ?_
  refine wRegion ?_
  refine rmP rfl rfl rfl rfl rfl ?_
  refine rmI rfl rfl rfl rfl rfl ?_
  refine rfa (off := 0) (s := 1) (r := false) rfl rfl rfl (Nat.succ_ne_zero _) rfl rfl rfl ?_
  (apply rlc (v := .int _ _) rfl rfl; (first | ((simp (disch := omega) only [↓app0, ↓appC, ↓updS, ↓updN, ↓hpS, ↓hpN]) <;> first | rfl | assumption) | assumption | rfl); (first | rfl | assumption | exact List.getElem?_set_self (by (try simp only [List.length_set]); exact hj)); rfl; rfl; rfl; rfl; rfl)
  refine rfa (off := 1) (s := 1) (r := false) rfl rfl rfl (Nat.succ_ne_zero _) rfl rfl rfl ?_
  (apply rlc (v := .int _ _) rfl rfl; (first | ((simp (disch := omega) only [↓app0, ↓appC, ↓updS, ↓updN, ↓hpS, ↓hpN]) <;> first | rfl | assumption) | assumption | rfl); (first | rfl | assumption | exact List.getElem?_set_self (by (try simp only [List.length_set]); exact hj)); rfl; rfl; rfl; rfl; rfl)
  refine rop (o124 nm tk hd ex tm nx c le (.view (n + 2) 0 (0 + (r.map wtV).length)) Ss rfl ht hn hle (id := id) (lb := lb) (j := j) (len := len) (R := R.set (0 + j) [.str nm, .int .i64 tk, .int .i64 hd, .int .i64 ex, .view (n + 2) 0 (0 + (r.map wtV).length)]) (by omega) (by omega) hne (by (first | ((simp (disch := omega) only [↓app0, ↓appC, ↓updS, ↓updN, ↓hpS, ↓hpN]) <;> first | rfl | assumption) | assumption | rfl)) hjl (by rw [List.length_set]; exact hj) (by (first | ((simp (disch := omega) only [↓app0, ↓appC, ↓updS, ↓updN, ↓hpS, ↓hpN]) <;> first | rfl | assumption) | assumption | rfl)) (List.getElem?_set_self hj)) rfl rfl rfl rfl rfl rfl ?_
  refine rNil ?_
  rw [← lenR r]; exact finO rfl rfl (leWr (by
    intro jx hjx
    simp only [List.map_cons, List.map_nil, List.mem_cons, List.not_mem_nil, or_false] at hjx
    rcases hjx with rfl | rfl | rfl <;> (simp (disch := omega) only [↓appC, ↓updN, ↓updS, ↓app0]) <;> first | rfl | (focus (simp only [List.set_set]; done)) | (simp only [List.set_set]; rfl)) (fun jx hjx hn => by
    simp only [List.map_cons, List.map_nil, List.mem_cons, List.not_mem_nil, or_false, not_or] at hn
    (simp (disch := omega) only [↓appC, ↓updN, ↓updS, ↓app0]))) (by omega)
end Go.Proofs.Ytknnniaoboaghaa
