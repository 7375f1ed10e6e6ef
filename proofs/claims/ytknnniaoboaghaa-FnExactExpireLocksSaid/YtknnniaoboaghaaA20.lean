import Derived.Test.YtknnniaoboaghaaA19
import Derived.Test.YtknnniaoboaghaaA15
import Derived.Test.YtknnniaoboaghaaA18
namespace Go.Proofs.Ytknnniaoboaghaa
open Go.V
set_option linter.unusedVariables false
set_option linter.unusedSimpArgs false
set_option maxRecDepth 20000
set_option maxHeartbeats 4000000

/-! spec's table when time goes on. -/
theorem mixR_set2 {A B A' B' : Nat → List V} {m i : Nat} {z : List V} (h : i < m) (e : A' i = z) (ea : ∀ j, j < i → A' j = A j) (eb : ∀ j, i < j → B' j = B j) : (mixR A B m i).set (0 + i) z = mixR A' B' m (i + 1) := by
  subst e
  apply List.ext_getElem?
  intro j
  rw [Nat.zero_add, List.getElem?_set]
  by_cases hj : j < m
  · rw [mixR_get hj, mixR_get hj]
    by_cases e : i = j
    · subst e; rw [if_pos rfl, if_pos (by rw [mixR_len]; exact h), if_pos (by omega)]
    · rw [if_neg e]
      by_cases h3 : j < i
      · rw [if_pos h3, if_pos (by omega), ea j h3]
      · rw [if_neg h3, if_neg (by omega), eb j (by omega)]
  · rw [if_neg (by omega), List.getElem?_eq_none (by rw [mixR_len]; omega), List.getElem?_eq_none (by rw [mixR_len]; omega)]
/-- The loop of l05Expire: what is known at its head. -/
structure SpI (t : Tb) (M : Int) (id lb i m : Nat) (w : Nat → Nat) (g : Heap) : Prop where
  le : i ≤ t.lk.length
  idm : id < m
  lbm : lb < m
  m6 : 6 < m
  ne : lb ≠ id
  ne6 : lb ≠ 6 ∧ lb ≠ 1 ∧ id ≠ 6 ∧ id ≠ 1
  wm : ∀ j, j < t.lk.length → w j < m
  wi : ∀ j, j < t.lk.length → w j ≠ id
  wl : ∀ j, j < t.lk.length → w j ≠ lb
  w6 : ∀ j, j < t.lk.length → w j ≠ 6
  w1 : ∀ j, j < t.lk.length → w j ≠ 1
  inj : ∀ a b, a < t.lk.length → b < t.lk.length → w a = w b → a = b
  kid : g id = some ⟨[[.int .i64 M, .int .i64 (nxL M t.nx (t.lk.take i)), .view lb 0 t.lk.length, .view 6 0 t.sn.length]], 4, 35⟩
  klb : g lb = some ⟨mixR (rwV w (exL M t.nx t.lk)) (rwV w t.lk) t.lk.length i, 5, 29⟩
  kw : ∀ j, j < t.lk.length → g (w j) = if j < i then wsF (exL M t.nx t.lk) j else wsF t.lk j
  k6 : g 6 = some ⟨t.sn.map Sn.V, 6, 115⟩
  k1 : g 1 = some ⟨[[.int .i64 0, .int .i64 0, .nsl, .nsl]], 4, 35⟩
  nxb : t.nx ≤ nxL M t.nx (t.lk.take i) ∧ nxL M t.nx (t.lk.take i) ≤ t.nx + (i : Int)
theorem SpI.stay {t : Tb} {M : Int} {id lb i m : Nat} {w : Nat → Nat} {g : Heap} (s : SpI t M id lb i m w g) (hi : i < t.lk.length) (hg : ¬ gone M (t.lk.getD i Lk0)) : SpI t M id lb (i + 1) m w g := by
  have hn : exN M (nxL M t.nx (t.lk.take i)) (t.lk.getD i Lk0) = nxL M t.nx (t.lk.take i) := if_neg (fun e => hg e.1)
  have he : (exL M t.nx t.lk).getD i Lk0 = t.lk.getD i Lk0 := by rw [exL_get hi]; exact if_neg hg
  refine ⟨by omega, s.idm, s.lbm, s.m6, s.ne, s.ne6, s.wm, s.wi, s.wl, s.w6, s.w1, s.inj, ?_, ?_, fun j hj => ?_, s.k6, s.k1, ?_⟩
  · rw [nxL_take hi, hn]; exact s.kid
  · rw [← mixR_same (fun _ => by unfold rwV; rw [he])]; exact s.klb
  · rw [s.kw j hj]
    by_cases h1 : j < i
    · rw [if_pos h1, if_pos (by omega)]
    · rw [if_neg h1]
      by_cases h2 : j = i
      · subst h2; rw [if_pos (by omega)]; unfold wsF; rw [he]
      · rw [if_neg (by omega)]
  · rw [nxL_take hi, hn]; have := s.nxb; omega
/-- What freeing one does to memory. -/
def frW (l : Lk) (wb n : Nat) : Nat := if l.ws = [] then wb else n + 2
def frB (tm nx : Int) (l : Lk) : Option Blk := if l.ws = [] then none else some ⟨(exF tm nx l).ws.map wtV, 2, 123⟩
theorem SpI.free {t : Tb} {M : Int} {id lb i m : Nat} {w : Nat → Nat} {g : Heap} (s : SpI t M id lb i m w g) (hi : i < t.lk.length) (hg : gone M (t.lk.getD i Lk0)) :
    SpI t M id lb (i + 1) (m + 3) (fun j => if j = i then frW (t.lk.getD i Lk0) (w i) m else w j)
      (app [(lb, some ⟨(mixR (rwV w (exL M t.nx t.lk)) (rwV w t.lk) t.lk.length i).set (0 + i) ((exF M (nxL M t.nx (t.lk.take i)) (t.lk.getD i Lk0)).V (.view (frW (t.lk.getD i Lk0) (w i) m) 0 (exF M (nxL M t.nx (t.lk.take i)) (t.lk.getD i Lk0)).ws.length)), 5, 29⟩),
        (id, some ⟨[[.int .i64 M, .int .i64 (exN M (nxL M t.nx (t.lk.take i)) (t.lk.getD i Lk0)), .view lb 0 t.lk.length, .view 6 0 t.sn.length]], 4, 35⟩), (m + 2, frB M (nxL M t.nx (t.lk.take i)) (t.lk.getD i Lk0))] g) := by
  have hid := s.idm; have hlb := s.lbm; have h6 := s.m6; have hne := s.ne; have hne6 := s.ne6
  have hfw : frW (t.lk.getD i Lk0) (w i) m = w i ∨ frW (t.lk.getD i Lk0) (w i) m = m + 2 := by unfold frW; split <;> simp
  have hwi := s.wm i hi
  have wm' : ∀ j, j < t.lk.length → (if j = i then frW (t.lk.getD i Lk0) (w i) m else w j) < m + 3 := fun j hj => by
    have := s.wm j hj
    split <;> omega
  have ne' : ∀ x, x < m → (∀ j, j < t.lk.length → w j ≠ x) → ∀ j, j < t.lk.length → (if j = i then frW (t.lk.getD i Lk0) (w i) m else w j) ≠ x := fun x hx hw j hj => by
    have := hw j hj; have := hw i hi
    split <;> omega
  have bd := exN_bd (tm := M) (nx := nxL M t.nx (t.lk.take i)) (l := t.lk.getD i Lk0)
  refine ⟨by omega, by omega, by omega, by omega, hne, hne6, wm', ne' id hid s.wi, ne' lb hlb s.wl, ne' 6 h6 s.w6, ne' 1 (by omega) s.w1, fun a b ha hb e => ?_, ?_, ?_, fun j hj => ?_, ?_, ?_, ?_⟩
  · have := s.inj a b ha hb
    have h1 := s.inj a i ha hi; have h2 := s.inj b i hb hi
    have := s.wm a ha; have := s.wm b hb
    (try dsimp only at e)
    split at e <;> split at e
    · omega
    · rcases hfw with h | h
      · rw [h] at e; omega
      · omega
    · rcases hfw with h | h
      · rw [h] at e; omega
      · omega
    · omega
  · simp (disch := omega) only [↓appC, ↓updN, ↓updS, ↓app0]
    rw [nxL_take hi]
  · simp (disch := omega) only [↓appC, ↓updN, ↓updS, ↓app0]
    refine congrArg (fun z => some (Blk.mk z 5 29)) (mixR_set2 hi ?_ (fun j hj => ?_) (fun j hj => ?_))
    · unfold rwV; rw [exL_get hi]; dsimp only; rw [if_pos rfl]
    · unfold rwV; dsimp only; rw [if_neg (by omega)]
    · unfold rwV; dsimp only; rw [if_neg (by omega)]
  · by_cases hji : j = i
    · subst hji
      rw [if_pos rfl, if_pos (by omega)]
      have hw1 := s.wi j hj; have hw2 := s.wl j hj
      unfold frW frB
      by_cases hz : (t.lk.getD j Lk0).ws = []
      · rw [if_pos hz, if_pos hz]
        simp (disch := omega) only [↓appC, ↓updN, ↓updS, ↓app0]
        rw [s.kw j hj, if_neg (Nat.lt_irrefl _)]
        unfold wsF
        rw [exL_get hj]
        have : (exF M (nxL M t.nx (t.lk.take j)) (t.lk.getD j Lk0)).ws = [] := by unfold exF; rw [if_pos hg, hz]
        rw [this, hz]
      · rw [if_neg hz, if_neg hz]
        simp (disch := omega) only [↓appC, ↓updN, ↓updS, ↓app0]
        unfold wsF
        rw [exL_get hj]
    · rw [if_neg hji]
      have hw1 := s.wi j hj; have hw2 := s.wl j hj; have hw3 := s.wm j hj
      simp (disch := omega) only [↓appC, ↓updN, ↓updS, ↓app0]
      rw [s.kw j hj]
      by_cases h1 : j < i
      · rw [if_pos h1, if_pos (by omega)]
      · rw [if_neg h1, if_neg (by omega)]
  · simp (disch := omega) only [↓appC, ↓updN, ↓updS, ↓app0]; exact s.k6
  · simp (disch := omega) only [↓appC, ↓updN, ↓updS, ↓app0]; exact s.k1
  · rw [nxL_take hi]; have := s.nxb; omega
theorem o95z (nm : ByteArray) (tk hd ex tm nx : Int) (wb off : Nat) (Ss : V) {id lb j len : Nat} {R : List (List V)} {h : Heap} {n : Nat} (hid : id < n) (hlb : lb < n) (hne : lb ≠ id) (hh : h id = some ⟨[[.int .i64 tm, .int .i64 nx, .view lb 0 len, Ss]], 4, 35⟩) (hjl : j < len) (hj : 0 + j < R.length) (k1 : h lb = some ⟨R, 5, 29⟩) (k2 : R[0 + j]? = some [.str nm, .int .i64 tk, .int .i64 hd, .int .i64 ex, .view wb off 0]) : V.Open En 95 [.ptr id 0 0, .int .i64 j] h n (.tup []) [(lb, some ⟨R.set (0 + j) [.str nm, .int .i64 tk, .int .i64 (-1), .int .i64 0, .view wb off 0], 5, 29⟩), (id, some ⟨[[.int .i64 tm, .int .i64 nx, .view lb 0 len, Ss]], 4, 35⟩), (n + 2, none)] (n + 3) := by
  refine V.Open.fresh rfl (by omega) fun hz => ?_
  refine V.Open.of_wp Try.func95 rfl (Nat.le_of_ble_eq_true rfl) ?_
  refine wSeq ?_
  refine wRegion ?_
  refine rmP rfl rfl rfl rfl rfl ?_
  refine rnc (v := .ptr _ _ _) rfl rfl rfl rfl rfl rfl ?_
  refine rfa (off := 2) (s := 1) (r := false) rfl rfl rfl (Nat.succ_ne_zero _) rfl rfl rfl ?_
  (apply rlc (v := .view _ _ _) rfl rfl; (first | ((simp (disch := omega) only [↓app0, ↓appC, ↓updS, ↓updN, ↓hpS, ↓hpN]) <;> first | rfl | assumption) | assumption | rfl); (first | rfl | assumption | exact List.getElem?_set_self (by (try simp only [List.length_set]); exact hj)); rfl; rfl; rfl; rfl; rfl)
  refine rmI rfl rfl rfl rfl rfl ?_
  (apply rixv rfl rfl rfl rfl; (first | ((simp (disch := omega) only [↓app0, ↓appC, ↓updS, ↓updN, ↓hpS, ↓hpN]) <;> first | rfl | assumption) | assumption | rfl); rfl; (first | omega | assumption | (focus (simp; omega))); (first | omega | assumption | (focus (simp; omega))); rfl; rfl; rfl)
  refine raP rfl rfl rfl rfl rfl ?_
  refine rNil ?_
  refine qSeq ?_
  refine wSeq ?_
  refine wSeq ?_
  refine wRegion ?_
  refine rmP rfl rfl rfl rfl rfl ?_
  refine rnc (v := .ptr _ _ _) rfl rfl rfl rfl rfl rfl ?_
  refine rfa (off := 4) (s := 1) (r := false) rfl rfl rfl (Nat.succ_ne_zero _) rfl rfl rfl ?_
  (apply rlc (v := .view _ _ _) rfl rfl; (first | ((simp (disch := omega) only [↓app0, ↓appC, ↓updS, ↓updN, ↓hpS, ↓hpN]) <;> first | rfl | assumption) | assumption | rfl); (first | rfl | assumption | exact List.getElem?_set_self (by (try simp only [List.length_set]); exact hj)); rfl; rfl; rfl; rfl; rfl)
  refine rll rfl rfl rfl rfl rfl rfl ?_
  refine req rfl rfl rfl rfl rfl rfl ?_ (fun h => absurd (rfl) h)
  intro h1_5
  refine rNil ?_
  refine qSeq ?_
  refine wT rfl ?_
  refine wSeq ?_
  refine wRegion ?_
  refine rmP rfl rfl rfl rfl rfl ?_
  refine rnc (v := .ptr _ _ _) rfl rfl rfl rfl rfl rfl ?_
  refine rfa (off := 2) (s := 1) (r := false) rfl rfl rfl (Nat.succ_ne_zero _) rfl rfl rfl ?_
  (apply rst (u := .int _ _) rfl rfl rfl; (first | ((simp (disch := omega) only [↓app0, ↓appC, ↓updS, ↓updN, ↓hpS, ↓hpN]) <;> first | rfl | assumption) | assumption | rfl); (first | rfl | assumption | exact List.getElem?_set_self (by (try simp only [List.length_set]); exact hj)); rfl; rfl; rfl; rfl; (exact Nat.le_of_ble_eq_true rfl); rfl; rfl; rfl)
  refine rNil ?_
  refine qSeq ?_
  refine wSeq ?_
  refine wRegion ?_
  refine rmP rfl rfl rfl rfl rfl ?_
  refine rnc (v := .ptr _ _ _) rfl rfl rfl rfl rfl rfl ?_
  refine rfa (off := 3) (s := 1) (r := false) rfl rfl rfl (Nat.succ_ne_zero _) rfl rfl rfl ?_
  (apply rst (u := .int _ _) rfl rfl rfl; (first | ((simp (disch := omega) only [↓app0, ↓appC, ↓updS, ↓updN, ↓hpS, ↓hpN]) <;> first | rfl | assumption) | assumption | rfl); (first | rfl | assumption | exact List.getElem?_set_self (by (try simp only [List.length_set]); exact hj)); rfl; rfl; rfl; rfl; (exact Nat.le_of_ble_eq_true rfl); rfl; rfl; rfl)
  refine rNil ?_
  refine qSeq ?_
  refine wRet ?_
  refine qSeqR ?_
  exact finO rfl rfl (leWr (by
    intro jx hjx
    simp only [List.map_cons, List.map_nil, List.mem_cons, List.not_mem_nil, or_false] at hjx
    rcases hjx with rfl | rfl | rfl <;> (simp (disch := omega) only [↓appC, ↓updN, ↓updS, ↓app0]) <;> first | rfl | exact hh | exact hz _ (by omega) | (focus (simp only [List.set_set]; done)) | (simp only [List.set_set]; rfl)) (fun jx hjx hn => by
    simp only [List.map_cons, List.map_nil, List.mem_cons, List.not_mem_nil, or_false, not_or] at hn
    (simp (disch := omega) only [↓appC, ↓updN, ↓updS, ↓app0]))) (by omega)
theorem o95 (l : Lk) (tm nx : Int) (wb : Nat) (Ss : V) (hg : gone tm l) (hL : l.ws.length ≤ 1000) (hw : ∀ i, i < l.ws.length → 1 ≤ (l.ws.getD i (0, 0)).2 ∧ (l.ws.getD i (0, 0)).2 ≤ 1000) (ht : 0 ≤ tm ∧ tm ≤ 1000000000) (hn : 0 ≤ nx ∧ nx ≤ 999999) {id lb j len : Nat} {R : List (List V)} {h : Heap} {n : Nat} (hid : id < n) (hlb : lb < n) (hne : lb ≠ id) (hh : h id = some ⟨[[.int .i64 tm, .int .i64 nx, .view lb 0 len, Ss]], 4, 35⟩) (hjl : j < len) (hj : 0 + j < R.length) (k1 : h lb = some ⟨R, 5, 29⟩) (hwb : wb < n) (hwl : wb ≠ lb) (hwi : wb ≠ id) (k2 : R[0 + j]? = some (l.V (.view wb 0 l.ws.length))) (k3 : h wb = some ⟨l.ws.map wtV, 2, 123⟩) :
    V.Open En 95 [.ptr id 0 0, .int .i64 j] h n (.tup []) [(lb, some ⟨R.set (0 + j) ((exF tm nx l).V (.view (frW l wb n) 0 (exF tm nx l).ws.length)), 5, 29⟩), (id, some ⟨[[.int .i64 tm, .int .i64 (exN tm nx l), .view lb 0 len, Ss]], 4, 35⟩), (n + 2, frB tm nx l)] (n + 3) := by
  obtain ⟨nm, tk, hd, ex, ws⟩ := l
  have hg' : gone tm ⟨nm, tk, hd, ex, ws⟩ := hg
  cases ws with
  | nil =>
    rw [show frW ⟨nm, tk, hd, ex, []⟩ wb n = wb from if_pos rfl, show frB tm nx ⟨nm, tk, hd, ex, []⟩ = none from if_pos rfl, show exN tm nx ⟨nm, tk, hd, ex, []⟩ = nx from if_neg (fun e => e.2 rfl), show exF tm nx ⟨nm, tk, hd, ex, []⟩ = ⟨nm, tk, -1, 0, []⟩ from if_pos hg']
    exact o95z nm tk hd ex tm nx wb 0 Ss hid hlb hne hh hjl hj k1 k2
  | cons a r =>
    rw [show frW ⟨nm, tk, hd, ex, a :: r⟩ wb n = n + 2 from if_neg (by simp), show frB tm nx ⟨nm, tk, hd, ex, a :: r⟩ = some ⟨(exF tm nx ⟨nm, tk, hd, ex, a :: r⟩).ws.map wtV, 2, 123⟩ from if_neg (by simp), show exN tm nx ⟨nm, tk, hd, ex, a :: r⟩ = nx + 1 from if_pos ⟨hg', by simp⟩, show exF tm nx ⟨nm, tk, hd, ex, a :: r⟩ = ⟨nm, nx, a.1, tm + a.2, r⟩ from if_pos hg']
    have hw0 := hw 0 (by simp)
    simp only [List.getD_eq_getElem?_getD, List.getElem?_cons_zero, Option.getD_some] at hw0
    simp only [List.length_cons] at hL
    exact o95b nm tk hd ex tm nx a.1 a.2 wb r Ss (by omega) ht hn ⟨by omega, hw0.2⟩ hid hlb hne hh hjl hj k1 hwb hwl hwi k2 k3
theorem s58 (t : Tb) (now : Int) (hok : t.OK) (hr : 0 ≤ now ∧ now ≤ 1000000000) (hu : ¬ t.nx > 999000) : Pure En 58 [.agg (t.T true true true), .one (.int .i64 now)] [.agg ((exT t now).T true true true)] := by
  have hl4 := hok.2.2.1
  have hz2 : t.lk.length = 0 ∨ 0 < t.lk.length := by omega
  obtain ⟨lid0, hlid⟩ : ∃ lid0, (lid0 = 2 + 2 ∧ t.lk.length = 0 ∨ lid0 = 2 + 5 * t.lk.length + 5 ∧ 0 < t.lk.length) := by
    rcases hz2 with h | h
    · exact ⟨_, .inl ⟨rfl, h⟩⟩
    · exact ⟨_, .inr ⟨rfl, h⟩⟩
  refine Pure.of_wp Try.func58 rfl (Nat.le_of_ble_eq_true rfl) ?_
  refine wSeq ?_
  refine wRegion ?_
  refine rbx (u := .agg [.int _ _, .int _ _, _, _]) rfl rfl rfl rfl rfl rfl rfl ?_
  refine ral rfl rfl rfl rfl rfl rfl ?_
  refine rNil ?_
  refine qSeq ?_
  refine wSeq ?_
  refine wRegion ?_
  (apply rlr (vs := [.int _ _, .int _ _, _, _]) rfl rfl; (first | ((simp (disch := (first | omega | assumption)) only [↓appC, ↓updN, ↓updS, ↓app0, ↓hpS, ↓hpN]) <;> first | rfl | assumption) | ((simp (disch := (first | omega | (intro _ _; dsimp only; omega))) only [↓appC, ↓updN, ↓updS, ↓app0, ↓famAO]) <;> first | rfl | assumption) | assumption | rfl); (first | rfl | exact hrow (by omega)); rfl; (exact Nat.le_of_ble_eq_true rfl); rfl; rfl; rfl; rfl)
  refine rop (o44 t false (by omega) (fun i hi => by have := OKw hok hi; omega) (by have := hok.2.2.2.1; omega) lid0 hlid) rfl rfl rfl rfl rfl rfl ?_
  refine ral rfl rfl rfl rfl rfl rfl ?_
  (apply rst (u := .agg [.int _ _, .int _ _, _, _]) rfl rfl rfl; (first | ((simp (disch := (first | omega | assumption)) only [↓appC, ↓updN, ↓updS, ↓app0, ↓hpS, ↓hpN]) <;> first | rfl | assumption) | ((simp (disch := (first | omega | (intro _ _; dsimp only; omega))) only [↓appC, ↓updN, ↓updS, ↓app0, ↓famAO]) <;> first | rfl | assumption) | assumption | rfl); (first | rfl | exact hrow (by omega)); rfl; rfl; rfl; rfl; (exact Nat.le_of_ble_eq_true rfl); rfl; rfl; rfl)
  refine rNil ?_
  refine qSeq ?_
  refine wSeq ?_
  refine wRegion ?_
  refine rfa (off := 0) (s := 1) (r := false) rfl rfl rfl (Nat.succ_ne_zero _) rfl rfl rfl ?_
  (apply rlc (v := .int _ _) rfl rfl; (first | ((simp (disch := (first | omega | assumption)) only [↓appC, ↓updN, ↓updS, ↓app0, ↓hpS, ↓hpN]) <;> first | rfl | assumption) | ((simp (disch := (first | omega | (intro _ _; dsimp only; omega))) only [↓appC, ↓updN, ↓updS, ↓app0, ↓famAO]) <;> first | rfl | assumption) | assumption | rfl); (first | rfl | exact hrow (by omega)); rfl; rfl; rfl; rfl; rfl)
  refine rmI rfl rfl rfl rfl rfl ?_
  refine rmax rfl rfl rfl rfl rfl rfl ?_
  refine rfa (off := 0) (s := 1) (r := false) rfl rfl rfl (Nat.succ_ne_zero _) rfl rfl rfl ?_
  (apply rst (u := .int _ _) rfl rfl rfl; (first | ((simp (disch := (first | omega | assumption)) only [↓appC, ↓updN, ↓updS, ↓app0, ↓hpS, ↓hpN]) <;> first | rfl | assumption) | ((simp (disch := (first | omega | (intro _ _; dsimp only; omega))) only [↓appC, ↓updN, ↓updS, ↓app0, ↓famAO]) <;> first | rfl | assumption) | assumption | rfl); (first | rfl | exact hrow (by omega)); rfl; rfl; rfl; rfl; (exact Nat.le_of_ble_eq_true rfl); rfl; rfl; rfl)
  refine rNil ?_
  refine qSeq ?_
  refine wSeq ?_
  refine wSeq ?_
  refine wRegion ?_
  refine raI rfl rfl rfl rfl rfl ?_
  refine rNil ?_
  refine qSeq ?_
  refine wBlock ?_
  refine wLoop ?_
  refine wlG fun g0 hg0 => ?_
  refine loopGo (fun (a : Nat × Nat × (Nat → Nat) × Heap) => [.unk, .unk, .unk, .unk, .ptr 1 0 0, .ptr (2 + 6 + 5 * t.lk.length) 0 0, .int .i64 a.1]) (fun (a : Nat × Nat × (Nat → Nat) × Heap) => a.2.2.2) (fun (a : Nat × Nat × (Nat → Nat) × Heap) => a.2.1) (fun (a : Nat × Nat × (Nat → Nat) × Heap) => SpI t (max t.tm now) (2 + 6 + 5 * t.lk.length) lid0 a.1 a.2.1 a.2.2.1 a.2.2.2) (fun (a : Nat × Nat × (Nat → Nat) × Heap) => t.lk.length - a.1) (0, (2 + 6 + 5 * t.lk.length) + 1, (fun i => 2 + 6 + 5 * i + 2), g0) ?_ ?_ ?_ ?_ ?_
  · dsimp only
    refine ⟨Nat.zero_le _, by omega, by omega, by omega, by omega, ⟨by omega, by omega, by omega, by omega⟩, fun j hj => by (try dsimp only); omega, fun j hj => by (try dsimp only); omega, fun j hj => by (try dsimp only); omega, fun j hj => by (try dsimp only); omega, fun j hj => by (try dsimp only); omega, (fun a b _ _ e => by (try dsimp only at e); omega), ?_, ?_, fun j hj => ?_, ?_, ?_, ?_⟩
    · rw [hg0, List.take_zero]; (first | ((simp (disch := (first | omega | assumption)) only [↓appC, ↓updN, ↓updS, ↓app0, ↓hpS, ↓hpN]) <;> first | rfl | assumption) | ((simp (disch := (first | omega | (intro _ _; dsimp only; omega))) only [↓appC, ↓updN, ↓updS, ↓app0, ↓famAO]) <;> first | rfl | assumption) | assumption | rfl)
    · rw [hg0, mixR_zero]; (first | ((simp (disch := (first | omega | assumption)) only [↓appC, ↓updN, ↓updS, ↓app0, ↓hpS, ↓hpN]) <;> first | rfl | assumption) | ((simp (disch := (first | omega | (intro _ _; dsimp only; omega))) only [↓appC, ↓updN, ↓updS, ↓app0, ↓famAO]) <;> first | rfl | assumption) | assumption | rfl)
    · rw [hg0, if_neg (Nat.not_lt_zero _)]; (simp (disch := omega) only [↓appC, ↓updN, ↓app0]); exact famA (w := (fun i => 2 + 6 + 5 * i + 2)) (fun a b _ _ e => by (try dsimp only at e); omega) hj
    · rw [hg0]; (first | ((simp (disch := (first | omega | assumption)) only [↓appC, ↓updN, ↓updS, ↓app0, ↓hpS, ↓hpN]) <;> first | rfl | assumption) | ((simp (disch := (first | omega | (intro _ _; dsimp only; omega))) only [↓appC, ↓updN, ↓updS, ↓app0, ↓famAO]) <;> first | rfl | assumption) | assumption | rfl)
    · rw [hg0]; (first | ((simp (disch := (first | omega | assumption)) only [↓appC, ↓updN, ↓updS, ↓app0, ↓hpS, ↓hpN]) <;> first | rfl | assumption) | ((simp (disch := (first | omega | (intro _ _; dsimp only; omega))) only [↓appC, ↓updN, ↓updS, ↓app0, ↓famAO]) <;> first | rfl | assumption) | assumption | rfl)
    · rw [List.take_zero]; show t.nx ≤ t.nx ∧ t.nx ≤ t.nx + _; omega
  · (repeat first | exact LE.nil _ | refine LE.unk _ _ ?_ | refine LE.eq _ _ _ rfl ?_)
  · exact LessH.refl _
  · exact Nat.le_refl _
  intro ⟨i, m, w, g⟩ hI ih
  dsimp only at hI ⊢
  have hle := hI.le
  have q1 := hI.kid
  have q2 := hI.klb
  have q3 := hI.k1
  have hrow : i < t.lk.length → (mixR (rwV w (exL (max t.tm now) t.nx t.lk)) (rwV w t.lk) t.lk.length i)[0 + i]? = some ((t.lk.getD i Lk0).V (.view (w i) 0 (t.lk.getD i Lk0).ws.length)) := fun h => mixR_at h rfl
  have hhd : i < t.lk.length → -1 ≤ (t.lk.getD i Lk0).hd := fun h => (hok.2.2.2.2.1 i h).1.2.2.1.1
  refine lStep ?_
  refine wSeq ?_
  refine wSeq ?_
  refine wRegion ?_
  refine rmI rfl rfl rfl rfl rfl ?_
  refine rfa (off := 2) (s := 1) (r := false) rfl rfl rfl (Nat.succ_ne_zero _) rfl rfl rfl ?_
  (apply rlc (v := .view _ _ _) rfl rfl; (first | ((simp (disch := (first | omega | assumption)) only [↓appC, ↓updN, ↓updS, ↓app0, ↓hpS, ↓hpN]) <;> first | rfl | assumption) | ((simp (disch := (first | omega | (intro _ _; dsimp only; omega))) only [↓appC, ↓updN, ↓updS, ↓app0, ↓famAO]) <;> first | rfl | assumption) | assumption | rfl); (first | rfl | exact hrow (by omega)); rfl; rfl; rfl; rfl; rfl)
  refine rll rfl rfl rfl rfl rfl rfl ?_
  refine rlt rfl rfl rfl rfl rfl rfl ?_ ?_ <;> intro h4_4
  · refine rNil ?_
    refine qSeq ?_
    refine wT rfl ?_
    refine wSkip ?_
    refine qSeq ?_
    refine wSeq ?_
    refine wBlock ?_
    refine wSeq ?_
    refine wDraw [0, 1, 0, 7, 15, 31, 63, 127, 255, 511, 255, 2047, 4095, 8191, 255, 16639, 65535, 131071] rfl (by decide +kernel) ?_
    refine dfa (off := 2) (s := 1) (r := false) rfl rfl rfl (Nat.succ_ne_zero _) rfl rfl rfl ?_
    (apply dlc (v := .view _ _ _) rfl rfl; (first | ((simp (disch := (first | omega | assumption)) only [↓appC, ↓updN, ↓updS, ↓app0, ↓hpS, ↓hpN]) <;> first | rfl | assumption) | ((simp (disch := (first | omega | (intro _ _; dsimp only; omega))) only [↓appC, ↓updN, ↓updS, ↓app0, ↓famAO]) <;> first | rfl | assumption) | assumption | rfl); (first | rfl | exact hrow (by omega)); rfl; rfl; rfl; rfl; rfl)
    refine dmI rfl rfl rfl rfl rfl ?_
    (apply dixv rfl rfl rfl rfl; (first | ((simp (disch := (first | omega | assumption)) only [↓appC, ↓updN, ↓updS, ↓app0, ↓hpS, ↓hpN]) <;> first | rfl | assumption) | ((simp (disch := (first | omega | (intro _ _; dsimp only; omega))) only [↓appC, ↓updN, ↓updS, ↓app0, ↓famAO]) <;> first | rfl | assumption) | assumption | rfl); rfl; (first | omega | assumption | (focus (simp; omega))); (first | omega | assumption | (focus (simp; omega))); rfl; rfl; rfl)
    refine dfa (off := 2) (s := 1) (r := false) rfl rfl rfl (Nat.succ_ne_zero _) rfl rfl rfl ?_
    (apply dlc (v := .int _ _) rfl rfl; (first | ((simp (disch := (first | omega | assumption)) only [↓appC, ↓updN, ↓updS, ↓app0, ↓hpS, ↓hpN]) <;> first | rfl | assumption) | ((simp (disch := (first | omega | (intro _ _; dsimp only; omega))) only [↓appC, ↓updN, ↓updS, ↓app0, ↓famAO]) <;> first | rfl | assumption) | assumption | rfl); (first | rfl | exact hrow (by omega)); rfl; rfl; rfl; rfl; rfl)
    refine dge rfl rfl rfl rfl rfl rfl ?_ ?_ <;> intro h6_6
    · refine dmB rfl rfl rfl rfl rfl ?_
      refine dfa (off := 2) (s := 1) (r := false) rfl rfl rfl (Nat.succ_ne_zero _) rfl rfl rfl ?_
      (apply dlc (v := .view _ _ _) rfl rfl; (first | ((simp (disch := (first | omega | assumption)) only [↓appC, ↓updN, ↓updS, ↓app0, ↓hpS, ↓hpN]) <;> first | rfl | assumption) | ((simp (disch := (first | omega | (intro _ _; dsimp only; omega))) only [↓appC, ↓updN, ↓updS, ↓app0, ↓famAO]) <;> first | rfl | assumption) | assumption | rfl); (first | rfl | exact hrow (by omega)); rfl; rfl; rfl; rfl; rfl)
      refine dmI rfl rfl rfl rfl rfl ?_
      (apply dixv rfl rfl rfl rfl; (first | ((simp (disch := (first | omega | assumption)) only [↓appC, ↓updN, ↓updS, ↓app0, ↓hpS, ↓hpN]) <;> first | rfl | assumption) | ((simp (disch := (first | omega | (intro _ _; dsimp only; omega))) only [↓appC, ↓updN, ↓updS, ↓app0, ↓famAO]) <;> first | rfl | assumption) | assumption | rfl); rfl; (first | omega | assumption | (focus (simp; omega))); (first | omega | assumption | (focus (simp; omega))); rfl; rfl; rfl)
      refine dfa (off := 3) (s := 1) (r := false) rfl rfl rfl (Nat.succ_ne_zero _) rfl rfl rfl ?_
      (apply dlc (v := .int _ _) rfl rfl; (first | ((simp (disch := (first | omega | assumption)) only [↓appC, ↓updN, ↓updS, ↓app0, ↓hpS, ↓hpN]) <;> first | rfl | assumption) | ((simp (disch := (first | omega | (intro _ _; dsimp only; omega))) only [↓appC, ↓updN, ↓updS, ↓app0, ↓famAO]) <;> first | rfl | assumption) | assumption | rfl); (first | rfl | exact hrow (by omega)); rfl; rfl; rfl; rfl; rfl)
      refine dfa (off := 0) (s := 1) (r := false) rfl rfl rfl (Nat.succ_ne_zero _) rfl rfl rfl ?_
      (apply dlc (v := .int _ _) rfl rfl; (first | ((simp (disch := (first | omega | assumption)) only [↓appC, ↓updN, ↓updS, ↓app0, ↓hpS, ↓hpN]) <;> first | rfl | assumption) | ((simp (disch := (first | omega | (intro _ _; dsimp only; omega))) only [↓appC, ↓updN, ↓updS, ↓app0, ↓famAO]) <;> first | rfl | assumption) | assumption | rfl); (first | rfl | exact hrow (by omega)); rfl; rfl; rfl; rfl; rfl)
      refine dle rfl rfl rfl rfl rfl rfl ?_ ?_ <;> intro h6_16
      · refine dpk (e := true) rfl rfl rfl rfl rfl rfl ?_
        refine dNilR 18 [0, 0, 1, 0, 1, 0, 1, 0, 1, 0, 0, 0, 1, 0, 1, 0, 1, 0] [] rfl rfl (by decide +kernel) trivial ?_
        refine qSeq ?_
        refine wT rfl ?_
        refine wRegion ?_
        refine rmI rfl rfl rfl rfl rfl ?_
        refine rop (o95 (t.lk.getD i Lk0) (max t.tm now) (nxL (max t.tm now) t.nx (t.lk.take i)) (w i) (.view 6 0 t.sn.length) ⟨by omega, by omega⟩ (by have := OKw hok (show i < t.lk.length by omega); omega) (fun k hk => OKl hok (by omega) hk) (by have := hok.1; omega) (by have := hI.nxb; have := hok.2.1; omega) (id := (2 + 6 + 5 * t.lk.length)) (lb := lid0) (j := i) (len := t.lk.length) (R := mixR (rwV w (exL (max t.tm now) t.nx t.lk)) (rwV w t.lk) t.lk.length i) hI.idm hI.lbm hI.ne hI.kid (by omega) (by rw [mixR_len]; omega) hI.klb (hI.wm i (by omega)) (hI.wl i (by omega)) (hI.wi i (by omega)) (hrow (by omega)) (by rw [hI.kw i (by omega), if_neg (Nat.lt_irrefl _)]; rfl)) rfl rfl rfl rfl rfl rfl ?_
        refine rNil ?_
        refine qBlock ?_
        refine qSeq ?_
        refine wRegion ?_
        refine rmI rfl rfl rfl rfl rfl ?_
        refine raddF rfl rfl rfl ?_ ?_ rfl rfl rfl ?_
        · (first | omega | assumption | (focus (simp; omega)))
        · (first | omega | assumption | (focus (simp; omega)))
        refine raI rfl rfl rfl rfl rfl ?_
        refine rNil ?_
        refine qLoop ?_
        first
        | (have hg : gone (max t.tm now) (t.lk.getD i Lk0) := ⟨by omega, by omega⟩
           exact wlH (ih (i + 1, m + 3, _, _) (hI.free (by omega) hg) (by dsimp only; omega)) (by (repeat first | exact LE.nil _ | refine LE.unk _ _ ?_ | refine LE.eq _ _ _ rfl ?_)) (LessH.refl _) (Nat.le_refl _))
        | (have hg : ¬ gone (max t.tm now) (t.lk.getD i Lk0) := (fun e => by have e1 := e.1; have e2 := e.2; have := hhd (by omega); omega)
           exact wlH (ih (i + 1, m, _, _) (hI.stay (by omega) hg) (by dsimp only; omega)) (by (repeat first | exact LE.nil _ | refine LE.unk _ _ ?_ | refine LE.eq _ _ _ rfl ?_)) (LessH.refl _) (Nat.le_refl _))
      · refine dpk (e := false) rfl rfl rfl rfl rfl rfl ?_
        refine dNilR 18 [0, 0, 1, 0, 1, 0, 1, 0, 1, 0, 0, 0, 1, 0, 1, 0, 1, 0] [] rfl rfl (by decide +kernel) trivial ?_
        refine qSeq ?_
        refine wF rfl ?_
        refine wSkip ?_
        refine qBlock ?_
        refine qSeq ?_
        refine wRegion ?_
        refine rmI rfl rfl rfl rfl rfl ?_
        refine raddF rfl rfl rfl ?_ ?_ rfl rfl rfl ?_
        · (first | omega | assumption | (focus (simp; omega)))
        · (first | omega | assumption | (focus (simp; omega)))
        refine raI rfl rfl rfl rfl rfl ?_
        refine rNil ?_
        refine qLoop ?_
        first
        | (have hg : gone (max t.tm now) (t.lk.getD i Lk0) := ⟨by omega, by omega⟩
           exact wlH (ih (i + 1, m + 3, _, _) (hI.free (by omega) hg) (by dsimp only; omega)) (by (repeat first | exact LE.nil _ | refine LE.unk _ _ ?_ | refine LE.eq _ _ _ rfl ?_)) (LessH.refl _) (Nat.le_refl _))
        | (have hg : ¬ gone (max t.tm now) (t.lk.getD i Lk0) := (fun e => by have e1 := e.1; have e2 := e.2; have := hhd (by omega); omega)
           exact wlH (ih (i + 1, m, _, _) (hI.stay (by omega) hg) (by dsimp only; omega)) (by (repeat first | exact LE.nil _ | refine LE.unk _ _ ?_ | refine LE.eq _ _ _ rfl ?_)) (LessH.refl _) (Nat.le_refl _))
    · refine dmB rfl rfl rfl rfl rfl ?_
      refine dSkip rfl rfl rfl ?_
      refine dSkip rfl rfl rfl ?_
      refine dSkip rfl rfl rfl ?_
      refine dSkip rfl rfl rfl ?_
      refine dSkip rfl rfl rfl ?_
      refine dSkip rfl rfl rfl ?_
      refine dSkip rfl rfl rfl ?_
      refine dSkip rfl rfl rfl ?_
      refine dSkip rfl rfl rfl ?_
      refine dpk (e := false) rfl rfl rfl rfl rfl rfl ?_
      refine dNilR 18 [0, 0, 0, 0, 0, 0, 0, 0, 0, 0, 0, 0, 1, 0, 1, 0, 1, 0] [] rfl rfl (by decide +kernel) trivial ?_
      refine qSeq ?_
      refine wF rfl ?_
      refine wSkip ?_
      refine qBlock ?_
      refine qSeq ?_
      refine wRegion ?_
      refine rmI rfl rfl rfl rfl rfl ?_
      refine raddF rfl rfl rfl ?_ ?_ rfl rfl rfl ?_
      · (first | omega | assumption | (focus (simp; omega)))
      · (first | omega | assumption | (focus (simp; omega)))
      refine raI rfl rfl rfl rfl rfl ?_
      refine rNil ?_
      refine qLoop ?_
      first
      | (have hg : gone (max t.tm now) (t.lk.getD i Lk0) := ⟨by omega, by omega⟩
         exact wlH (ih (i + 1, m + 3, _, _) (hI.free (by omega) hg) (by dsimp only; omega)) (by (repeat first | exact LE.nil _ | refine LE.unk _ _ ?_ | refine LE.eq _ _ _ rfl ?_)) (LessH.refl _) (Nat.le_refl _))
      | (have hg : ¬ gone (max t.tm now) (t.lk.getD i Lk0) := (fun e => by have e1 := e.1; have e2 := e.2; have := hhd (by omega); omega)
         exact wlH (ih (i + 1, m, _, _) (hI.stay (by omega) hg) (by dsimp only; omega)) (by (repeat first | exact LE.nil _ | refine LE.unk _ _ ?_ | refine LE.eq _ _ _ rfl ?_)) (LessH.refl _) (Nat.le_refl _))
  · refine rNil ?_
    refine qSeq ?_
    refine wF rfl ?_
    refine wExit ?_
    refine qSeqX ?_
    refine qLoopX ?_
    refine qBlockX ?_
    refine qSeq ?_
    refine wSeq ?_
    refine wRegion ?_
    (apply rlr (vs := [.int _ _, .int _ _, _, _]) rfl rfl; (first | ((simp (disch := (first | omega | assumption)) only [↓appC, ↓updN, ↓updS, ↓app0, ↓hpS, ↓hpN]) <;> first | rfl | assumption) | ((simp (disch := (first | omega | (intro _ _; dsimp only; omega))) only [↓appC, ↓updN, ↓updS, ↓app0, ↓famAO]) <;> first | rfl | assumption) | assumption | rfl); (first | rfl | exact hrow (by omega)); rfl; (exact Nat.le_of_ble_eq_true rfl); rfl; rfl; rfl; rfl)
    (apply rst (u := .agg [.int _ _, .int _ _, _, _]) rfl rfl rfl; (first | ((simp (disch := (first | omega | assumption)) only [↓appC, ↓updN, ↓updS, ↓app0, ↓hpS, ↓hpN]) <;> first | rfl | assumption) | ((simp (disch := (first | omega | (intro _ _; dsimp only; omega))) only [↓appC, ↓updN, ↓updS, ↓app0, ↓famAO]) <;> first | rfl | assumption) | assumption | rfl); (first | rfl | exact hrow (by omega)); rfl; rfl; rfl; rfl; (exact Nat.le_of_ble_eq_true rfl); rfl; rfl; rfl)
    refine rNil ?_
    refine qSeq ?_
    refine wRet ?_
    obtain rfl : i = t.lk.length := by omega
    have e9 := exL_len (max t.tm now) t.nx t.lk
    rw [List.take_length]
    refine finS ([lid0, 6] ++ (List.range t.lk.length).map w) (resL_cons (resV_row rfl (by (first | ((simp (disch := (first | omega | assumption)) only [↓appC, ↓updN, ↓updS, ↓app0, ↓hpS, ↓hpN]) <;> first | rfl | assumption) | ((simp (disch := (first | omega | (intro _ _; dsimp only; omega))) only [↓appC, ↓updN, ↓updS, ↓app0, ↓famAO]) <;> first | rfl | assumption) | assumption | rfl)) rfl rfl (Nat.le_of_ble_eq_true rfl) rfl) resL_nil) ?_
    have e10 : ∀ i, i < (exT t now).lk.length → i < t.lk.length := fun i h => Nat.lt_of_lt_of_eq h e9
    refine SnapL.cons _ _ _ _ (snapTb (ids := [lid0, 6] ++ (List.range t.lk.length).map w) (lb := lid0) (sb := 6) (m1 := t.lk.length) (m2 := t.sn.length) (w := w) (t := exT t now) (List.mem_append_left _ List.mem_cons_self) (List.mem_append_left _ (List.mem_cons_of_mem _ List.mem_cons_self)) (fun i hi => List.mem_append_right _ (List.mem_map.2 ⟨i, List.mem_range.2 (e10 i hi), rfl⟩)) ?_ (fun i hi => ?_) ?_ e9.symm rfl) SnapL.nil
    · have hne6 := hI.ne6
      (simp (disch := omega) only [↓appC, ↓updN, ↓app0])
      refine q2.trans ?_
      rw [mixR_full]
      show _ = some (Blk.mk (lkR w (exL (max t.tm now) t.nx t.lk)) 5 29)
      unfold lkR; rw [e9]
    · have hi' : i < t.lk.length := e10 i hi
      have h2 := hI.w1 i hi'
      (simp (disch := omega) only [↓appC, ↓updN, ↓app0])
      rw [hI.kw i hi', if_pos hi']; rfl
    · (simp (disch := omega) only [↓appC, ↓updN, ↓app0])
      exact hI.k6
end Go.Proofs.Ytknnniaoboaghaa
