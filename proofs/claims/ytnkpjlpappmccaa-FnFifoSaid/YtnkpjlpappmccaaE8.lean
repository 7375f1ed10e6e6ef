import Derived.Test.YtnkpjlpappmccaaE7
namespace Go.Proofs.Ytnkpjlpappmccaa
open Go.V
set_option linter.unusedVariables false
set_option linter.unusedSimpArgs false
set_option maxRecDepth 20000
set_option maxHeartbeats 4000000

theorem o21a (nm : ByteArray) (c : Nat) (st le nx : Int) (hc0 : c = 0) (hn : 0 ≤ nx ∧ nx ≤ 1000000) (hle : 0 ≤ le ∧ le ≤ 1000) {id : Nat} {h : Heap} {n : Nat} (hid : id < n) (hh : h id = some ⟨[[.int .i64 0, .int .i64 nx, .nsl, .nsl]], 4, 38⟩) :
    V.Open En 21 [.ptr id 0 0, .int .i64 0, .agg [.int .i64 (c : Nat), .int .i64 st, .int .i64 1, .int .i64 le, .str nm]] h n (.agg [.int .i64 1, .int .i64 nx, .int .i64 (c : Nat), .int .i64 (0 + le)]) [(id, some ⟨[[.int .i64 0, .int .i64 (nx + 1), .view (n + 9) 0 1, .view (n + 16) 0 1]], 4, 38⟩), (n + 9, some ⟨[(Lk.mk nm nx c (0 + le) []).V .nsl], 5, 46⟩), (n + 16, some ⟨[(Sn.mk c st ⟨1, nx, c, 0 + le⟩).V], 6, 79⟩)] (n + 17) := by
  subst hc0
  refine V.Open.of_wp Try.func21 rfl (Nat.le_of_ble_eq_true rfl) ?_
  refine wSeq ?_
  refine wRegion ?_
  refine rbx (u := .agg [.int _ _, .int _ _, .int _ _, .int _ _, .str _]) rfl rfl rfl rfl rfl rfl rfl ?_
  refine ral rfl rfl rfl rfl rfl rfl ?_
  refine rNil ?_
  refine qSeq ?_
  refine wSeq ?_
  refine wRegion ?_
  refine rmP rfl rfl rfl rfl rfl ?_
  refine rmI rfl rfl rfl rfl rfl ?_
  refine rop (o38n nx .nsl ?_ ?_) rfl rfl rfl rfl rfl rfl ?_
  · (first | omega | (first | ((simp (disch := omega) only [↓app0, ↓appC, ↓updS, ↓updN, ↓hpS, ↓hpN]) <;> first | rfl | assumption) | assumption | rfl) | (first | omega | assumption | (focus (simp; omega))))
  · (first | omega | (first | ((simp (disch := omega) only [↓app0, ↓appC, ↓updS, ↓updN, ↓hpS, ↓hpN]) <;> first | rfl | assumption) | assumption | rfl) | (first | omega | assumption | (focus (simp; omega))))
  refine rNil ?_
  refine qSeq ?_
  refine wSeq ?_
  refine wDraw [0, 1, 3, 7, 0, 16, 63, 127, 255, 255, 511, 2047] rfl (by decide +kernel) ?_
  refine dmP rfl rfl rfl rfl rfl ?_
  refine dnc (v := .ptr _ _ _) rfl rfl rfl rfl rfl rfl ?_
  refine dfa (off := 3) (s := 1) (r := false) rfl rfl rfl (Nat.succ_ne_zero _) rfl rfl rfl ?_
  (apply dlc (v := .nsl) rfl rfl; (first | ((simp (disch := omega) only [↓app0, ↓appC, ↓updS, ↓updN, ↓hpS, ↓hpN]) <;> first | rfl | assumption) | assumption | rfl); rfl; rfl; rfl; rfl; rfl; rfl)
  refine dfa (off := 0) (s := 1) (r := false) rfl rfl rfl (Nat.succ_ne_zero _) rfl rfl rfl ?_
  (apply dlc (v := .int _ _) rfl rfl; (first | ((simp (disch := omega) only [↓app0, ↓appC, ↓updS, ↓updN, ↓hpS, ↓hpN]) <;> first | rfl | assumption) | assumption | rfl); rfl; rfl; rfl; rfl; rfl; rfl)
  refine dop o39n rfl rfl rfl rfl rfl rfl ?_
  refine dmT rfl rfl rfl rfl rfl ?_
  refine dex rfl rfl rfl rfl rfl rfl ?_
  refine dexB rfl rfl rfl rfl rfl rfl (fun h => absurd h (by first | (rw [decide_eq_false (by omega)]; exact Bool.noConfusion) | exact Bool.noConfusion)) ?_
  intro h2_9
  refine daI rfl rfl rfl rfl rfl ?_
  refine daB rfl rfl rfl rfl rfl ?_
  refine dNilR 12 [0, 0, 0, 0, 0, 3, 1, 0, 1, 0, 0, 0] [] rfl rfl (by decide +kernel) trivial ?_
  refine qSeq ?_
  refine wSeq ?_
  refine wBlock ?_
  refine wSeq ?_
  refine wDraw [0, 1, 3, 7, 15, 31, 3, 127, 255, 511, 3, 1027, 4095, 8191, 16383] rfl (by decide +kernel) ?_
  refine dmB rfl rfl rfl rfl rfl ?_
  refine dmB rfl rfl rfl rfl rfl ?_
  refine dSkip rfl rfl rfl ?_
  refine dSkip rfl rfl rfl ?_
  refine dSkip rfl rfl rfl ?_
  refine dSkip rfl rfl rfl ?_
  refine dSkip rfl rfl rfl ?_
  refine dSkip rfl rfl rfl ?_
  refine dSkip rfl rfl rfl ?_
  refine dSkip rfl rfl rfl ?_
  refine dSkip rfl rfl rfl ?_
  refine dSkip rfl rfl rfl ?_
  refine dSkip rfl rfl rfl ?_
  refine dpk (e := false) rfl rfl rfl rfl rfl rfl ?_
  refine daB rfl rfl rfl rfl rfl ?_
  refine dNilR 15 [0, 0, 0, 0, 0, 0, 0, 0, 0, 0, 0, 0, 0, 0, 0] [] rfl rfl (by decide +kernel) trivial ?_
  refine qSeq ?_
  refine wF rfl ?_
  refine wSeq ?_
  refine wDraw [0, 1, 3, 7, 15, 31, 3, 127, 255, 511, 3, 1027, 4095, 8191, 16383] rfl (by decide +kernel) ?_
  refine dmB rfl rfl rfl rfl rfl ?_
  refine dmB rfl rfl rfl rfl rfl ?_
  refine dSkip rfl rfl rfl ?_
  refine dSkip rfl rfl rfl ?_
  refine dSkip rfl rfl rfl ?_
  refine dSkip rfl rfl rfl ?_
  refine dSkip rfl rfl rfl ?_
  refine dSkip rfl rfl rfl ?_
  refine dSkip rfl rfl rfl ?_
  refine dSkip rfl rfl rfl ?_
  refine dSkip rfl rfl rfl ?_
  refine dSkip rfl rfl rfl ?_
  refine dSkip rfl rfl rfl ?_
  refine dpk (e := false) rfl rfl rfl rfl rfl rfl ?_
  refine daB rfl rfl rfl rfl rfl ?_
  refine dNilR 15 [0, 0, 0, 0, 0, 0, 0, 0, 0, 0, 0, 0, 0, 0, 0] [] rfl rfl (by decide +kernel) trivial ?_
  refine qSeq ?_
  refine wF rfl ?_
  refine wSeq ?_
  refine wRegion ?_
  refine rmB rfl rfl rfl rfl rfl ?_
  refine rnot (c := false) rfl rfl rfl rfl rfl ?_
  refine rmB rfl rfl rfl rfl rfl ?_
  refine rmP rfl rfl rfl rfl rfl ?_
  refine rnc (v := .ptr _ _ _) rfl rfl rfl rfl rfl rfl ?_
  refine rfa (off := 3) (s := 1) (r := false) rfl rfl rfl (Nat.succ_ne_zero _) rfl rfl rfl ?_
  (apply rlc (v := .nsl) rfl rfl; (first | ((simp (disch := omega) only [↓app0, ↓appC, ↓updS, ↓updN, ↓hpS, ↓hpN]) <;> first | rfl | assumption) | assumption | rfl); rfl; rfl; rfl; rfl; rfl; rfl)
  refine rll rfl rfl rfl rfl rfl rfl ?_
  refine req rfl rfl rfl rfl rfl rfl (fun h => absurd h (by first | decide | (show ¬ ((L.length : Int) = 6); omega))) ?_
  intro h7_8
  refine rpk (e := false) rfl rfl rfl rfl rfl rfl ?_
  refine raB rfl rfl rfl rfl rfl ?_
  refine rNil ?_
  refine qSeq ?_
  refine wF rfl ?_
  refine wSkip ?_
  refine qBlock ?_
  refine qSeq ?_
  refine wSeq ?_
  refine wRegion ?_
  refine rmP rfl rfl rfl rfl rfl ?_
  (apply rlr (vs := [.int _ _, .int _ _, .int _ _, .int _ _, .str _]) rfl rfl; (first | ((simp (disch := omega) only [↓app0, ↓appC, ↓updS, ↓updN, ↓hpS, ↓hpN]) <;> first | rfl | assumption) | assumption | rfl); rfl; rfl; (exact Nat.le_of_ble_eq_true rfl); rfl; rfl; rfl; rfl)
  refine rop (o42a nm ((0 : Nat) : Int) st le nx .nsl (by decide) hn hle ?_ ?_) rfl rfl rfl rfl rfl rfl ?_
  · (first | omega | (first | ((simp (disch := omega) only [↓app0, ↓appC, ↓updS, ↓updN, ↓hpS, ↓hpN]) <;> first | rfl | assumption) | assumption | rfl) | (first | omega | assumption | (focus (simp; omega))))
  · (first | omega | (first | ((simp (disch := omega) only [↓app0, ↓appC, ↓updS, ↓updN, ↓hpS, ↓hpN]) <;> first | rfl | assumption) | assumption | rfl) | (first | omega | assumption | (focus (simp; omega))))
  refine ral rfl rfl rfl rfl rfl rfl ?_
  (apply rst (u := .agg [.int _ _, .int _ _, .int _ _, .int _ _]) rfl rfl rfl; (first | ((simp (disch := omega) only [↓app0, ↓appC, ↓updS, ↓updN, ↓hpS, ↓hpN]) <;> first | rfl | assumption) | assumption | rfl); rfl; rfl; rfl; rfl; rfl; (exact Nat.le_of_ble_eq_true rfl); rfl; rfl; rfl)
  refine rNil ?_
  refine qSeq ?_
  refine wSeq ?_
  refine wRegion ?_
  refine rfa (off := 0) (s := 1) (r := false) rfl rfl rfl (Nat.succ_ne_zero _) rfl rfl rfl ?_
  (apply rlc (v := .int _ _) rfl rfl; (first | ((simp (disch := omega) only [↓app0, ↓appC, ↓updS, ↓updN, ↓hpS, ↓hpN]) <;> first | rfl | assumption) | assumption | rfl); rfl; rfl; rfl; rfl; rfl; rfl)
  refine rfa (off := 1) (s := 1) (r := false) rfl rfl rfl (Nat.succ_ne_zero _) rfl rfl rfl ?_
  (apply rlc (v := .int _ _) rfl rfl; (first | ((simp (disch := omega) only [↓app0, ↓appC, ↓updS, ↓updN, ↓hpS, ↓hpN]) <;> first | rfl | assumption) | assumption | rfl); rfl; rfl; rfl; rfl; rfl; rfl)
  (apply rlr (vs := [.int _ _, .int _ _, .int _ _, .int _ _]) rfl rfl; (first | ((simp (disch := omega) only [↓app0, ↓appC, ↓updS, ↓updN, ↓hpS, ↓hpN]) <;> first | rfl | assumption) | assumption | rfl); rfl; rfl; (exact Nat.le_of_ble_eq_true rfl); rfl; rfl; rfl; rfl)
  refine rbd (cs := [.int _ _, .int _ _, .int _ _, .int _ _, .int _ _, .int _ _]) rfl rfl rfl rfl rfl ?_
  refine ral rfl rfl rfl rfl rfl rfl ?_
  (apply rst (u := .agg [.int _ _, .int _ _, .int _ _, .int _ _, .int _ _, .int _ _]) rfl rfl rfl; (first | ((simp (disch := omega) only [↓app0, ↓appC, ↓updS, ↓updN, ↓hpS, ↓hpN]) <;> first | rfl | assumption) | assumption | rfl); rfl; rfl; rfl; rfl; rfl; (exact Nat.le_of_ble_eq_true rfl); rfl; rfl; rfl)
  refine rNil ?_
  refine qSeq ?_
  refine wSeq ?_
  refine wSeq ?_
  refine wRegion ?_
  refine rmB rfl rfl rfl rfl rfl ?_
  refine rNil ?_
  refine qSeq ?_
  refine wF rfl ?_
  refine wDraw [0, 0, 2, 6, 14, 0, 0, 64, 254, 511, 1023, 2047] rfl (by decide +kernel) ?_
  refine dmP rfl rfl rfl rfl rfl ?_
  refine dmP rfl rfl rfl rfl rfl ?_
  refine dnc (v := .ptr _ _ _) rfl rfl rfl rfl rfl rfl ?_
  refine dfa (off := 3) (s := 1) (r := false) rfl rfl rfl (Nat.succ_ne_zero _) rfl rfl rfl ?_
  (apply dlc (v := .nsl) rfl rfl; (first | ((simp (disch := omega) only [↓app0, ↓appC, ↓updS, ↓updN, ↓hpS, ↓hpN]) <;> first | rfl | assumption) | assumption | rfl); rfl; rfl; rfl; rfl; rfl; rfl)
  refine dmI rfl rfl rfl rfl rfl ?_
  (apply dlr (vs := [.int _ _, .int _ _, .int _ _, .int _ _, .int _ _, .int _ _]) rfl rfl; (first | ((simp (disch := omega) only [↓app0, ↓appC, ↓updS, ↓updN, ↓hpS, ↓hpN]) <;> first | rfl | assumption) | assumption | rfl); rfl; rfl; (exact Nat.le_of_ble_eq_true rfl); rfl; rfl; rfl; rfl)
  refine dbs (es := [[.int _ _, .int _ _, .int _ _, .int _ _, .int _ _, .int _ _]]) rfl rfl rfl rfl (Nat.succ_ne_zero _) (Nat.le_of_ble_eq_true rfl) rfl rfl rfl rfl rfl ?_
  refine dop (o43n (Sn.mk ((0 : Nat) : Int) st ⟨1, nx, ((0 : Nat) : Int), 0 + le⟩) (v1 := n + 15) ?_ ?_) rfl rfl rfl rfl rfl rfl ?_
  · (first | omega | (first | ((simp (disch := omega) only [↓app0, ↓appC, ↓updS, ↓updN, ↓hpS, ↓hpN]) <;> first | rfl | assumption) | assumption | rfl) | (first | omega | assumption | (focus (simp; omega))))
  · (first | omega | (first | ((simp (disch := omega) only [↓app0, ↓appC, ↓updS, ↓updN, ↓hpS, ↓hpN]) <;> first | rfl | assumption) | assumption | rfl) | (first | omega | assumption | (focus (simp; omega))))
  refine dnc (v := .ptr _ _ _) rfl rfl rfl rfl rfl rfl ?_
  refine dfa (off := 3) (s := 1) (r := false) rfl rfl rfl (Nat.succ_ne_zero _) rfl rfl rfl ?_
  (apply dst (u := .view _ _ _) rfl rfl rfl; (first | ((simp (disch := omega) only [↓app0, ↓appC, ↓updS, ↓updN, ↓hpS, ↓hpN]) <;> first | rfl | assumption) | assumption | rfl); rfl; rfl; rfl; rfl; rfl; (exact Nat.le_of_ble_eq_true rfl); rfl; rfl; rfl)
  refine dNilR 12 [3, 0, 0, 3, 3, 1, 0, 1, 0, 0, 0, 0] [(4, 7)] rfl rfl (by decide +kernel) ?_ ?_
  · (simp [ClearL, ids]; try omega)
  refine qSeq ?_
  refine wSeq ?_
  refine wRegion ?_
  (apply rlr (vs := [.int _ _, .int _ _, .int _ _, .int _ _]) rfl rfl; (first | ((simp (disch := omega) only [↓app0, ↓appC, ↓updS, ↓updN, ↓hpS, ↓hpN]) <;> first | rfl | assumption) | assumption | rfl); rfl; rfl; (exact Nat.le_of_ble_eq_true rfl); rfl; rfl; rfl; rfl)
  (apply rst (u := .agg [.int _ _, .int _ _, .int _ _, .int _ _]) rfl rfl rfl; (first | ((simp (disch := omega) only [↓app0, ↓appC, ↓updS, ↓updN, ↓hpS, ↓hpN]) <;> first | rfl | assumption) | assumption | rfl); rfl; rfl; rfl; rfl; rfl; (exact Nat.le_of_ble_eq_true rfl); rfl; rfl; rfl)
  refine rNil ?_
  refine qSeq ?_
  refine wRet ?_
  exact finO (resL_cons (resV_row rfl (by (first | ((simp (disch := omega) only [↓app0, ↓appC, ↓updS, ↓updN]) <;> first | rfl | assumption) | assumption | rfl)) rfl rfl (Nat.le_of_ble_eq_true rfl) rfl) resL_nil) rfl (leWr (by
    intro j hj
    simp only [List.map_cons, List.map_nil, List.mem_cons, List.not_mem_nil, or_false] at hj
    rcases hj with rfl | rfl | rfl <;> (simp (disch := omega) only [↓app0, ↓appC, ↓updS, ↓updN]) <;> first | rfl | (exact congrArg (fun z => some (Blk.mk z 6 79)) (by simp only [List.map_append]; rfl))) (fun j hj hn => by
    simp only [List.map_cons, List.map_nil, List.mem_cons, List.not_mem_nil, or_false, not_or] at hn
    simp (disch := omega) only [↓app0, ↓appC, ↓updS, ↓updN])) (Nat.le_refl _)

theorem o21b (l : Lk) (st le nx : Int) (L : List Sn) (hL : L.length ≤ 5) (hcl : ∀ j, j < L.length → (L.getD j Sn0).cl = j) (hd1 : l.hd ≠ -1) (hd2 : ¬ l.hd = ((L.length : Nat) : Int)) (hex : 0 < l.ex) {id lb sb : Nat}  {h : Heap} {n : Nat} (hw0 : l.ws = []) (hid : id < n) (hlb : lb < n) (hsb : sb < n) (hne : lb ≠ id) (hs1 : sb ≠ id) (hs2 : sb ≠ lb) (hh : h id = some ⟨[[.int .i64 0, .int .i64 nx, .view lb 0 1, .view sb 0 L.length]], 4, 38⟩) (k1 : h lb = some ⟨[l.V (.nsl)], 5, 46⟩) (k3 : h sb = some ⟨L.map Sn.V, 6, 79⟩) :
    V.Open En 21 [.ptr id 0 0, .int .i64 0, .agg [.int .i64 ((L.length : Nat) : Int), .int .i64 st, .int .i64 1, .int .i64 le, .str l.nm]] h n (.agg [.int .i64 2, .int .i64 l.tk, .int .i64 l.hd, .int .i64 l.ex]) [(lb, some ⟨[l.V (.view (n + 11) 0 1)], 5, 46⟩), (n + 11, some ⟨[wtV (((L.length : Nat) : Int), le)], 2, 93⟩), (id, some ⟨[[.int .i64 0, .int .i64 nx, .view lb 0 1, .view (n + 16) 0 (L.length + 1)]], 4, 38⟩), (sb, none), (n + 16, some ⟨(L ++ [(Sn.mk ((L.length : Nat) : Int) st ⟨2, l.tk, l.hd, l.ex⟩)]).map Sn.V, 6, 79⟩)] (n + 17) := by
  refine V.Open.of_wp Try.func21 rfl (Nat.le_of_ble_eq_true rfl) ?_
  refine wSeq ?_
  refine wRegion ?_
  refine rbx (u := .agg [.int _ _, .int _ _, .int _ _, .int _ _, .str _]) rfl rfl rfl rfl rfl rfl rfl ?_
  refine ral rfl rfl rfl rfl rfl rfl ?_
  refine rNil ?_
  refine qSeq ?_
  refine wSeq ?_
  refine wRegion ?_
  refine rmP rfl rfl rfl rfl rfl ?_
  refine rmI rfl rfl rfl rfl rfl ?_
  refine rop (o38v l (.nsl) nx (.view sb 0 L.length) hd1 hex (lb := lb) ?_ ?_ hne ?_ ?_) rfl rfl rfl rfl rfl rfl ?_
  · (first | omega | (first | ((simp (disch := omega) only [↓app0, ↓appC, ↓updS, ↓updN, ↓hpS, ↓hpN]) <;> first | rfl | assumption) | assumption | rfl) | (first | omega | assumption | (focus (simp; omega))))
  · (first | omega | (first | ((simp (disch := omega) only [↓app0, ↓appC, ↓updS, ↓updN, ↓hpS, ↓hpN]) <;> first | rfl | assumption) | assumption | rfl) | (first | omega | assumption | (focus (simp; omega))))
  · (first | omega | (first | ((simp (disch := omega) only [↓app0, ↓appC, ↓updS, ↓updN, ↓hpS, ↓hpN]) <;> first | rfl | assumption) | assumption | rfl) | (first | omega | assumption | (focus (simp; omega))))
  · (first | omega | (first | ((simp (disch := omega) only [↓app0, ↓appC, ↓updS, ↓updN, ↓hpS, ↓hpN]) <;> first | rfl | assumption) | assumption | rfl) | (first | omega | assumption | (focus (simp; omega))))
  refine rNil ?_
  refine qSeq ?_
  refine wSeq ?_
  refine wDraw [0, 1, 3, 7, 0, 16, 63, 127, 255, 255, 511, 2047] rfl (by decide +kernel) ?_
  refine dmP rfl rfl rfl rfl rfl ?_
  refine dnc (v := .ptr _ _ _) rfl rfl rfl rfl rfl rfl ?_
  refine dfa (off := 3) (s := 1) (r := false) rfl rfl rfl (Nat.succ_ne_zero _) rfl rfl rfl ?_
  (apply dlc (v := .view _ _ _) rfl rfl; (first | ((simp (disch := omega) only [↓app0, ↓appC, ↓updS, ↓updN, ↓hpS, ↓hpN]) <;> first | rfl | assumption) | assumption | rfl); rfl; rfl; rfl; rfl; rfl; rfl)
  refine dfa (off := 0) (s := 1) (r := false) rfl rfl rfl (Nat.succ_ne_zero _) rfl rfl rfl ?_
  (apply dlc (v := .int _ _) rfl rfl; (first | ((simp (disch := omega) only [↓app0, ↓appC, ↓updS, ↓updN, ↓hpS, ↓hpN]) <;> first | rfl | assumption) | assumption | rfl); rfl; rfl; rfl; rfl; rfl; rfl)
  refine dop (o39v L L.length (Nat.le_refl _) (by omega) hcl (sb := sb) ?_ ?_) rfl rfl rfl rfl rfl rfl ?_
  · (first | omega | (first | ((simp (disch := omega) only [↓app0, ↓appC, ↓updS, ↓updN, ↓hpS, ↓hpN]) <;> first | rfl | assumption) | assumption | rfl) | (first | omega | assumption | (focus (simp; omega))))
  · (first | omega | (first | ((simp (disch := omega) only [↓app0, ↓appC, ↓updS, ↓updN, ↓hpS, ↓hpN]) <;> first | rfl | assumption) | assumption | rfl) | (first | omega | assumption | (focus (simp; omega))))
  refine dmT rfl rfl rfl rfl rfl ?_
  refine dex rfl rfl rfl rfl rfl rfl ?_
  refine dexB rfl rfl rfl rfl rfl rfl (fun h => absurd h (by first | (rw [decide_eq_false (by omega)]; exact Bool.noConfusion) | exact Bool.noConfusion)) ?_
  intro h2_9
  refine daI rfl rfl rfl rfl rfl ?_
  refine daB rfl rfl rfl rfl rfl ?_
  refine dNilR 12 [0, 0, 0, 0, 0, 3, 1, 0, 1, 0, 0, 0] [] rfl rfl (by decide +kernel) trivial ?_
  refine qSeq ?_
  refine wSeq ?_
  refine wBlock ?_
  refine wSeq ?_
  refine wDraw [0, 1, 3, 7, 15, 31, 3, 127, 255, 511, 3, 1027, 4095, 8191, 16383] rfl (by decide +kernel) ?_
  refine dmB rfl rfl rfl rfl rfl ?_
  refine dmB rfl rfl rfl rfl rfl ?_
  refine dSkip rfl rfl rfl ?_
  refine dSkip rfl rfl rfl ?_
  refine dSkip rfl rfl rfl ?_
  refine dSkip rfl rfl rfl ?_
  refine dSkip rfl rfl rfl ?_
  refine dSkip rfl rfl rfl ?_
  refine dSkip rfl rfl rfl ?_
  refine dSkip rfl rfl rfl ?_
  refine dSkip rfl rfl rfl ?_
  refine dSkip rfl rfl rfl ?_
  refine dSkip rfl rfl rfl ?_
  refine dpk (e := false) rfl rfl rfl rfl rfl rfl ?_
  refine daB rfl rfl rfl rfl rfl ?_
  refine dNilR 15 [0, 0, 0, 0, 0, 0, 0, 0, 0, 0, 0, 0, 0, 0, 0] [] rfl rfl (by decide +kernel) trivial ?_
  refine qSeq ?_
  refine wF rfl ?_
  refine wSeq ?_
  refine wDraw [0, 1, 3, 7, 15, 31, 3, 127, 255, 511, 3, 1027, 4095, 8191, 16383] rfl (by decide +kernel) ?_
  refine dmB rfl rfl rfl rfl rfl ?_
  refine dmB rfl rfl rfl rfl rfl ?_
  refine dSkip rfl rfl rfl ?_
  refine dSkip rfl rfl rfl ?_
  refine dSkip rfl rfl rfl ?_
  refine dSkip rfl rfl rfl ?_
  refine dSkip rfl rfl rfl ?_
  refine dSkip rfl rfl rfl ?_
  refine dSkip rfl rfl rfl ?_
  refine dSkip rfl rfl rfl ?_
  refine dSkip rfl rfl rfl ?_
  refine dSkip rfl rfl rfl ?_
  refine dSkip rfl rfl rfl ?_
  refine dpk (e := false) rfl rfl rfl rfl rfl rfl ?_
  refine daB rfl rfl rfl rfl rfl ?_
  refine dNilR 15 [0, 0, 0, 0, 0, 0, 0, 0, 0, 0, 0, 0, 0, 0, 0] [] rfl rfl (by decide +kernel) trivial ?_
  refine qSeq ?_
  refine wF rfl ?_
  refine wSeq ?_
  refine wRegion ?_
  refine rmB rfl rfl rfl rfl rfl ?_
  refine rnot (c := false) rfl rfl rfl rfl rfl ?_
  refine rmB rfl rfl rfl rfl rfl ?_
  refine rmP rfl rfl rfl rfl rfl ?_
  refine rnc (v := .ptr _ _ _) rfl rfl rfl rfl rfl rfl ?_
  refine rfa (off := 3) (s := 1) (r := false) rfl rfl rfl (Nat.succ_ne_zero _) rfl rfl rfl ?_
  (apply rlc (v := .view _ _ _) rfl rfl; (first | ((simp (disch := omega) only [↓app0, ↓appC, ↓updS, ↓updN, ↓hpS, ↓hpN]) <;> first | rfl | assumption) | assumption | rfl); rfl; rfl; rfl; rfl; rfl; rfl)
  refine rll rfl rfl rfl rfl rfl rfl ?_
  refine req rfl rfl rfl rfl rfl rfl (fun h => absurd h (by first | decide | (show ¬ ((L.length : Int) = 6); omega))) ?_
  intro h7_8
  refine rpk (e := false) rfl rfl rfl rfl rfl rfl ?_
  refine raB rfl rfl rfl rfl rfl ?_
  refine rNil ?_
  refine qSeq ?_
  refine wF rfl ?_
  refine wSkip ?_
  refine qBlock ?_
  refine qSeq ?_
  refine wSeq ?_
  refine wRegion ?_
  refine rmP rfl rfl rfl rfl rfl ?_
  (apply rlr (vs := [.int _ _, .int _ _, .int _ _, .int _ _, .str _]) rfl rfl; (first | ((simp (disch := omega) only [↓app0, ↓appC, ↓updS, ↓updN, ↓hpS, ↓hpN]) <;> first | rfl | assumption) | assumption | rfl); rfl; rfl; (exact Nat.le_of_ble_eq_true rfl); rfl; rfl; rfl; rfl)
  refine rop (o42b l ((L.length : Nat) : Int) st le nx (.view sb 0 L.length) (by omega) hd1 hd2 hw0 (lb := lb) ?_ ?_ hne ?_ ?_) rfl rfl rfl rfl rfl rfl ?_
  · (first | omega | (first | ((simp (disch := omega) only [↓app0, ↓appC, ↓updS, ↓updN, ↓hpS, ↓hpN]) <;> first | rfl | assumption) | assumption | rfl) | (first | omega | assumption | (focus (simp; omega))))
  · (first | omega | (first | ((simp (disch := omega) only [↓app0, ↓appC, ↓updS, ↓updN, ↓hpS, ↓hpN]) <;> first | rfl | assumption) | assumption | rfl) | (first | omega | assumption | (focus (simp; omega))))
  · (first | omega | (first | ((simp (disch := omega) only [↓app0, ↓appC, ↓updS, ↓updN, ↓hpS, ↓hpN]) <;> first | rfl | assumption) | assumption | rfl) | (first | omega | assumption | (focus (simp; omega))))
  · (first | omega | (first | ((simp (disch := omega) only [↓app0, ↓appC, ↓updS, ↓updN, ↓hpS, ↓hpN]) <;> first | rfl | assumption) | assumption | rfl) | (first | omega | assumption | (focus (simp; omega))))
  refine ral rfl rfl rfl rfl rfl rfl ?_
  (apply rst (u := .agg [.int _ _, .int _ _, .int _ _, .int _ _]) rfl rfl rfl; (first | ((simp (disch := omega) only [↓app0, ↓appC, ↓updS, ↓updN, ↓hpS, ↓hpN]) <;> first | rfl | assumption) | assumption | rfl); rfl; rfl; rfl; rfl; rfl; (exact Nat.le_of_ble_eq_true rfl); rfl; rfl; rfl)
  refine rNil ?_
  refine qSeq ?_
  refine wSeq ?_
  refine wRegion ?_
  refine rfa (off := 0) (s := 1) (r := false) rfl rfl rfl (Nat.succ_ne_zero _) rfl rfl rfl ?_
  (apply rlc (v := .int _ _) rfl rfl; (first | ((simp (disch := omega) only [↓app0, ↓appC, ↓updS, ↓updN, ↓hpS, ↓hpN]) <;> first | rfl | assumption) | assumption | rfl); rfl; rfl; rfl; rfl; rfl; rfl)
  refine rfa (off := 1) (s := 1) (r := false) rfl rfl rfl (Nat.succ_ne_zero _) rfl rfl rfl ?_
  (apply rlc (v := .int _ _) rfl rfl; (first | ((simp (disch := omega) only [↓app0, ↓appC, ↓updS, ↓updN, ↓hpS, ↓hpN]) <;> first | rfl | assumption) | assumption | rfl); rfl; rfl; rfl; rfl; rfl; rfl)
  (apply rlr (vs := [.int _ _, .int _ _, .int _ _, .int _ _]) rfl rfl; (first | ((simp (disch := omega) only [↓app0, ↓appC, ↓updS, ↓updN, ↓hpS, ↓hpN]) <;> first | rfl | assumption) | assumption | rfl); rfl; rfl; (exact Nat.le_of_ble_eq_true rfl); rfl; rfl; rfl; rfl)
  refine rbd (cs := [.int _ _, .int _ _, .int _ _, .int _ _, .int _ _, .int _ _]) rfl rfl rfl rfl rfl ?_
  refine ral rfl rfl rfl rfl rfl rfl ?_
  (apply rst (u := .agg [.int _ _, .int _ _, .int _ _, .int _ _, .int _ _, .int _ _]) rfl rfl rfl; (first | ((simp (disch := omega) only [↓app0, ↓appC, ↓updS, ↓updN, ↓hpS, ↓hpN]) <;> first | rfl | assumption) | assumption | rfl); rfl; rfl; rfl; rfl; rfl; (exact Nat.le_of_ble_eq_true rfl); rfl; rfl; rfl)
  refine rNil ?_
  refine qSeq ?_
  refine wSeq ?_
  refine wSeq ?_
  refine wRegion ?_
  refine rmB rfl rfl rfl rfl rfl ?_
  refine rNil ?_
  refine qSeq ?_
  refine wF rfl ?_
  refine wDraw [0, 0, 2, 6, 14, 0, 0, 64, 254, 511, 1023, 2047] rfl (by decide +kernel) ?_
  refine dmP rfl rfl rfl rfl rfl ?_
  refine dmP rfl rfl rfl rfl rfl ?_
  refine dnc (v := .ptr _ _ _) rfl rfl rfl rfl rfl rfl ?_
  refine dfa (off := 3) (s := 1) (r := false) rfl rfl rfl (Nat.succ_ne_zero _) rfl rfl rfl ?_
  (apply dlc (v := .view _ _ _) rfl rfl; (first | ((simp (disch := omega) only [↓app0, ↓appC, ↓updS, ↓updN, ↓hpS, ↓hpN]) <;> first | rfl | assumption) | assumption | rfl); rfl; rfl; rfl; rfl; rfl; rfl)
  refine dmI rfl rfl rfl rfl rfl ?_
  (apply dlr (vs := [.int _ _, .int _ _, .int _ _, .int _ _, .int _ _, .int _ _]) rfl rfl; (first | ((simp (disch := omega) only [↓app0, ↓appC, ↓updS, ↓updN, ↓hpS, ↓hpN]) <;> first | rfl | assumption) | assumption | rfl); rfl; rfl; (exact Nat.le_of_ble_eq_true rfl); rfl; rfl; rfl; rfl)
  refine dbs (es := [[.int _ _, .int _ _, .int _ _, .int _ _, .int _ _, .int _ _]]) rfl rfl rfl rfl (Nat.succ_ne_zero _) (Nat.le_of_ble_eq_true rfl) rfl rfl rfl rfl rfl ?_
  refine dop (o43v L (Sn.mk ((L.length : Nat) : Int) st ⟨2, l.tk, l.hd, l.ex⟩) (by omega) (sb := sb) (v1 := n + 15) ?_ ?_ ?_ ?_ ?_) rfl rfl rfl rfl rfl rfl ?_
  · (first | omega | (first | ((simp (disch := omega) only [↓app0, ↓appC, ↓updS, ↓updN, ↓hpS, ↓hpN]) <;> first | rfl | assumption) | assumption | rfl) | (first | omega | assumption | (focus (simp; omega))))
  · (first | omega | (first | ((simp (disch := omega) only [↓app0, ↓appC, ↓updS, ↓updN, ↓hpS, ↓hpN]) <;> first | rfl | assumption) | assumption | rfl) | (first | omega | assumption | (focus (simp; omega))))
  · (first | omega | (first | ((simp (disch := omega) only [↓app0, ↓appC, ↓updS, ↓updN, ↓hpS, ↓hpN]) <;> first | rfl | assumption) | assumption | rfl) | (first | omega | assumption | (focus (simp; omega))))
  · (first | omega | (first | ((simp (disch := omega) only [↓app0, ↓appC, ↓updS, ↓updN, ↓hpS, ↓hpN]) <;> first | rfl | assumption) | assumption | rfl) | (first | omega | assumption | (focus (simp; omega))))
  · (first | omega | (first | ((simp (disch := omega) only [↓app0, ↓appC, ↓updS, ↓updN, ↓hpS, ↓hpN]) <;> first | rfl | assumption) | assumption | rfl) | (first | omega | assumption | (focus (simp; omega))))
  refine dnc (v := .ptr _ _ _) rfl rfl rfl rfl rfl rfl ?_
  refine dfa (off := 3) (s := 1) (r := false) rfl rfl rfl (Nat.succ_ne_zero _) rfl rfl rfl ?_
  (apply dst (u := .view _ _ _) rfl rfl rfl; (first | ((simp (disch := omega) only [↓app0, ↓appC, ↓updS, ↓updN, ↓hpS, ↓hpN]) <;> first | rfl | assumption) | assumption | rfl); rfl; rfl; rfl; rfl; rfl; (exact Nat.le_of_ble_eq_true rfl); rfl; rfl; rfl)
  refine dNilR 12 [3, 0, 0, 3, 3, 1, 0, 1, 0, 0, 0, 0] [(4, 7)] rfl rfl (by decide +kernel) ?_ ?_
  · (simp [ClearL, ids]; try omega)
  refine qSeq ?_
  refine wSeq ?_
  refine wRegion ?_
  (apply rlr (vs := [.int _ _, .int _ _, .int _ _, .int _ _]) rfl rfl; (first | ((simp (disch := omega) only [↓app0, ↓appC, ↓updS, ↓updN, ↓hpS, ↓hpN]) <;> first | rfl | assumption) | assumption | rfl); rfl; rfl; (exact Nat.le_of_ble_eq_true rfl); rfl; rfl; rfl; rfl)
  (apply rst (u := .agg [.int _ _, .int _ _, .int _ _, .int _ _]) rfl rfl rfl; (first | ((simp (disch := omega) only [↓app0, ↓appC, ↓updS, ↓updN, ↓hpS, ↓hpN]) <;> first | rfl | assumption) | assumption | rfl); rfl; rfl; rfl; rfl; rfl; (exact Nat.le_of_ble_eq_true rfl); rfl; rfl; rfl)
  refine rNil ?_
  refine qSeq ?_
  refine wRet ?_
  exact finO (resL_cons (resV_row rfl (by (first | ((simp (disch := omega) only [↓app0, ↓appC, ↓updS, ↓updN]) <;> first | rfl | assumption) | assumption | rfl)) rfl rfl (Nat.le_of_ble_eq_true rfl) rfl) resL_nil) rfl (leWr (by
    intro j hj
    simp only [List.map_cons, List.map_nil, List.mem_cons, List.not_mem_nil, or_false] at hj
    rcases hj with rfl | rfl | rfl | rfl | rfl <;> (simp (disch := omega) only [↓app0, ↓appC, ↓updS, ↓updN]) <;> first | rfl | (exact congrArg (fun z => some (Blk.mk z 6 79)) (by simp only [List.map_append]; rfl))) (fun j hj hn => by
    simp only [List.map_cons, List.map_nil, List.mem_cons, List.not_mem_nil, or_false, not_or] at hn
    simp (disch := omega) only [↓app0, ↓appC, ↓updS, ↓updN])) (Nat.le_refl _)

theorem o21c (l : Lk) (st le nx : Int) (L : List Sn) (hL : L.length ≤ 5) (hcl : ∀ j, j < L.length → (L.getD j Sn0).cl = j) (hd1 : l.hd ≠ -1) (hd2 : ¬ l.hd = ((L.length : Nat) : Int)) (hex : 0 < l.ex) {id lb sb : Nat} {wb : Nat} {h : Heap} {n : Nat} (hW : l.ws.length ≤ 3) (hwx : wix ((L.length : Nat) : Int) l.ws = -1) (hwb : wb < n) (hw1 : wb ≠ id) (hw2 : wb ≠ lb) (hw3 : wb ≠ sb) (k2 : h wb = some ⟨l.ws.map wtV, 2, 93⟩) (hid : id < n) (hlb : lb < n) (hsb : sb < n) (hne : lb ≠ id) (hs1 : sb ≠ id) (hs2 : sb ≠ lb) (hh : h id = some ⟨[[.int .i64 0, .int .i64 nx, .view lb 0 1, .view sb 0 L.length]], 4, 38⟩) (k1 : h lb = some ⟨[l.V (.view wb 0 l.ws.length)], 5, 46⟩) (k3 : h sb = some ⟨L.map Sn.V, 6, 79⟩) :
    V.Open En 21 [.ptr id 0 0, .int .i64 0, .agg [.int .i64 ((L.length : Nat) : Int), .int .i64 st, .int .i64 1, .int .i64 le, .str l.nm]] h n (.agg [.int .i64 2, .int .i64 l.tk, .int .i64 l.hd, .int .i64 l.ex]) [(lb, some ⟨[l.V (.view (n + 10 + l.ws.length + 1) 0 (l.ws.length + 1))], 5, 46⟩), (wb, none), (n + 10 + l.ws.length + 1, some ⟨(l.ws ++ [(((L.length : Nat) : Int), le)]).map wtV, 2, 93⟩), (id, some ⟨[[.int .i64 0, .int .i64 nx, .view lb 0 1, .view (n + 13 + l.ws.length + 3) 0 (L.length + 1)]], 4, 38⟩), (sb, none), (n + 13 + l.ws.length + 3, some ⟨(L ++ [(Sn.mk ((L.length : Nat) : Int) st ⟨2, l.tk, l.hd, l.ex⟩)]).map Sn.V, 6, 79⟩)] (n + 13 + l.ws.length + 4) := by
  refine V.Open.of_wp Try.func21 rfl (Nat.le_of_ble_eq_true rfl) ?_
  refine wSeq ?_
  refine wRegion ?_
  refine rbx (u := .agg [.int _ _, .int _ _, .int _ _, .int _ _, .str _]) rfl rfl rfl rfl rfl rfl rfl ?_
  refine ral rfl rfl rfl rfl rfl rfl ?_
  refine rNil ?_
  refine qSeq ?_
  refine wSeq ?_
  refine wRegion ?_
  refine rmP rfl rfl rfl rfl rfl ?_
  refine rmI rfl rfl rfl rfl rfl ?_
  refine rop (o38v l (.view wb 0 l.ws.length) nx (.view sb 0 L.length) hd1 hex (lb := lb) ?_ ?_ hne ?_ ?_) rfl rfl rfl rfl rfl rfl ?_
  · (first | omega | (first | ((simp (disch := omega) only [↓app0, ↓appC, ↓updS, ↓updN, ↓hpS, ↓hpN]) <;> first | rfl | assumption) | assumption | rfl) | (first | omega | assumption | (focus (simp; omega))))
  · (first | omega | (first | ((simp (disch := omega) only [↓app0, ↓appC, ↓updS, ↓updN, ↓hpS, ↓hpN]) <;> first | rfl | assumption) | assumption | rfl) | (first | omega | assumption | (focus (simp; omega))))
  · (first | omega | (first | ((simp (disch := omega) only [↓app0, ↓appC, ↓updS, ↓updN, ↓hpS, ↓hpN]) <;> first | rfl | assumption) | assumption | rfl) | (first | omega | assumption | (focus (simp; omega))))
  · (first | omega | (first | ((simp (disch := omega) only [↓app0, ↓appC, ↓updS, ↓updN, ↓hpS, ↓hpN]) <;> first | rfl | assumption) | assumption | rfl) | (first | omega | assumption | (focus (simp; omega))))
  refine rNil ?_
  refine qSeq ?_
  refine wSeq ?_
  refine wDraw [0, 1, 3, 7, 0, 16, 63, 127, 255, 255, 511, 2047] rfl (by decide +kernel) ?_
  refine dmP rfl rfl rfl rfl rfl ?_
  refine dnc (v := .ptr _ _ _) rfl rfl rfl rfl rfl rfl ?_
  refine dfa (off := 3) (s := 1) (r := false) rfl rfl rfl (Nat.succ_ne_zero _) rfl rfl rfl ?_
  (apply dlc (v := .view _ _ _) rfl rfl; (first | ((simp (disch := omega) only [↓app0, ↓appC, ↓updS, ↓updN, ↓hpS, ↓hpN]) <;> first | rfl | assumption) | assumption | rfl); rfl; rfl; rfl; rfl; rfl; rfl)
  refine dfa (off := 0) (s := 1) (r := false) rfl rfl rfl (Nat.succ_ne_zero _) rfl rfl rfl ?_
  (apply dlc (v := .int _ _) rfl rfl; (first | ((simp (disch := omega) only [↓app0, ↓appC, ↓updS, ↓updN, ↓hpS, ↓hpN]) <;> first | rfl | assumption) | assumption | rfl); rfl; rfl; rfl; rfl; rfl; rfl)
  refine dop (o39v L L.length (Nat.le_refl _) (by omega) hcl (sb := sb) ?_ ?_) rfl rfl rfl rfl rfl rfl ?_
  · (first | omega | (first | ((simp (disch := omega) only [↓app0, ↓appC, ↓updS, ↓updN, ↓hpS, ↓hpN]) <;> first | rfl | assumption) | assumption | rfl) | (first | omega | assumption | (focus (simp; omega))))
  · (first | omega | (first | ((simp (disch := omega) only [↓app0, ↓appC, ↓updS, ↓updN, ↓hpS, ↓hpN]) <;> first | rfl | assumption) | assumption | rfl) | (first | omega | assumption | (focus (simp; omega))))
  refine dmT rfl rfl rfl rfl rfl ?_
  refine dex rfl rfl rfl rfl rfl rfl ?_
  refine dexB rfl rfl rfl rfl rfl rfl (fun h => absurd h (by first | (rw [decide_eq_false (by omega)]; exact Bool.noConfusion) | exact Bool.noConfusion)) ?_
  intro h2_9
  refine daI rfl rfl rfl rfl rfl ?_
  refine daB rfl rfl rfl rfl rfl ?_
  refine dNilR 12 [0, 0, 0, 0, 0, 3, 1, 0, 1, 0, 0, 0] [] rfl rfl (by decide +kernel) trivial ?_
  refine qSeq ?_
  refine wSeq ?_
  refine wBlock ?_
  refine wSeq ?_
  refine wDraw [0, 1, 3, 7, 15, 31, 3, 127, 255, 511, 3, 1027, 4095, 8191, 16383] rfl (by decide +kernel) ?_
  refine dmB rfl rfl rfl rfl rfl ?_
  refine dmB rfl rfl rfl rfl rfl ?_
  refine dSkip rfl rfl rfl ?_
  refine dSkip rfl rfl rfl ?_
  refine dSkip rfl rfl rfl ?_
  refine dSkip rfl rfl rfl ?_
  refine dSkip rfl rfl rfl ?_
  refine dSkip rfl rfl rfl ?_
  refine dSkip rfl rfl rfl ?_
  refine dSkip rfl rfl rfl ?_
  refine dSkip rfl rfl rfl ?_
  refine dSkip rfl rfl rfl ?_
  refine dSkip rfl rfl rfl ?_
  refine dpk (e := false) rfl rfl rfl rfl rfl rfl ?_
  refine daB rfl rfl rfl rfl rfl ?_
  refine dNilR 15 [0, 0, 0, 0, 0, 0, 0, 0, 0, 0, 0, 0, 0, 0, 0] [] rfl rfl (by decide +kernel) trivial ?_
  refine qSeq ?_
  refine wF rfl ?_
  refine wSeq ?_
  refine wDraw [0, 1, 3, 7, 15, 31, 3, 127, 255, 511, 3, 1027, 4095, 8191, 16383] rfl (by decide +kernel) ?_
  refine dmB rfl rfl rfl rfl rfl ?_
  refine dmB rfl rfl rfl rfl rfl ?_
  refine dSkip rfl rfl rfl ?_
  refine dSkip rfl rfl rfl ?_
  refine dSkip rfl rfl rfl ?_
  refine dSkip rfl rfl rfl ?_
  refine dSkip rfl rfl rfl ?_
  refine dSkip rfl rfl rfl ?_
  refine dSkip rfl rfl rfl ?_
  refine dSkip rfl rfl rfl ?_
  refine dSkip rfl rfl rfl ?_
  refine dSkip rfl rfl rfl ?_
  refine dSkip rfl rfl rfl ?_
  refine dpk (e := false) rfl rfl rfl rfl rfl rfl ?_
  refine daB rfl rfl rfl rfl rfl ?_
  refine dNilR 15 [0, 0, 0, 0, 0, 0, 0, 0, 0, 0, 0, 0, 0, 0, 0] [] rfl rfl (by decide +kernel) trivial ?_
  refine qSeq ?_
  refine wF rfl ?_
  refine wSeq ?_
  refine wRegion ?_
  refine rmB rfl rfl rfl rfl rfl ?_
  refine rnot (c := false) rfl rfl rfl rfl rfl ?_
  refine rmB rfl rfl rfl rfl rfl ?_
  refine rmP rfl rfl rfl rfl rfl ?_
  refine rnc (v := .ptr _ _ _) rfl rfl rfl rfl rfl rfl ?_
  refine rfa (off := 3) (s := 1) (r := false) rfl rfl rfl (Nat.succ_ne_zero _) rfl rfl rfl ?_
  (apply rlc (v := .view _ _ _) rfl rfl; (first | ((simp (disch := omega) only [↓app0, ↓appC, ↓updS, ↓updN, ↓hpS, ↓hpN]) <;> first | rfl | assumption) | assumption | rfl); rfl; rfl; rfl; rfl; rfl; rfl)
  refine rll rfl rfl rfl rfl rfl rfl ?_
  refine req rfl rfl rfl rfl rfl rfl (fun h => absurd h (by first | decide | (show ¬ ((L.length : Int) = 6); omega))) ?_
  intro h7_8
  refine rpk (e := false) rfl rfl rfl rfl rfl rfl ?_
  refine raB rfl rfl rfl rfl rfl ?_
  refine rNil ?_
  refine qSeq ?_
  refine wF rfl ?_
  refine wSkip ?_
  refine qBlock ?_
  refine qSeq ?_
  refine wSeq ?_
  refine wRegion ?_
  refine rmP rfl rfl rfl rfl rfl ?_
  (apply rlr (vs := [.int _ _, .int _ _, .int _ _, .int _ _, .str _]) rfl rfl; (first | ((simp (disch := omega) only [↓app0, ↓appC, ↓updS, ↓updN, ↓hpS, ↓hpN]) <;> first | rfl | assumption) | assumption | rfl); rfl; rfl; (exact Nat.le_of_ble_eq_true rfl); rfl; rfl; rfl; rfl)
  refine rop (o42c l ((L.length : Nat) : Int) st le nx (.view sb 0 L.length) (by omega) hd1 hd2 (lb := lb) (wb := wb) hW hwx ?_ hw1 hw2 ?_ ?_ ?_ hne ?_ ?_) rfl rfl rfl rfl rfl rfl ?_
  · (first | omega | (first | ((simp (disch := omega) only [↓app0, ↓appC, ↓updS, ↓updN, ↓hpS, ↓hpN]) <;> first | rfl | assumption) | assumption | rfl) | (first | omega | assumption | (focus (simp; omega))))
  · (first | omega | (first | ((simp (disch := omega) only [↓app0, ↓appC, ↓updS, ↓updN, ↓hpS, ↓hpN]) <;> first | rfl | assumption) | assumption | rfl) | (first | omega | assumption | (focus (simp; omega))))
  · (first | omega | (first | ((simp (disch := omega) only [↓app0, ↓appC, ↓updS, ↓updN, ↓hpS, ↓hpN]) <;> first | rfl | assumption) | assumption | rfl) | (first | omega | assumption | (focus (simp; omega))))
  · (first | omega | (first | ((simp (disch := omega) only [↓app0, ↓appC, ↓updS, ↓updN, ↓hpS, ↓hpN]) <;> first | rfl | assumption) | assumption | rfl) | (first | omega | assumption | (focus (simp; omega))))
  · (first | omega | (first | ((simp (disch := omega) only [↓app0, ↓appC, ↓updS, ↓updN, ↓hpS, ↓hpN]) <;> first | rfl | assumption) | assumption | rfl) | (first | omega | assumption | (focus (simp; omega))))
  · (first | omega | (first | ((simp (disch := omega) only [↓app0, ↓appC, ↓updS, ↓updN, ↓hpS, ↓hpN]) <;> first | rfl | assumption) | assumption | rfl) | (first | omega | assumption | (focus (simp; omega))))
  refine ral rfl rfl rfl rfl rfl rfl ?_
  (apply rst (u := .agg [.int _ _, .int _ _, .int _ _, .int _ _]) rfl rfl rfl; (first | ((simp (disch := omega) only [↓app0, ↓appC, ↓updS, ↓updN, ↓hpS, ↓hpN]) <;> first | rfl | assumption) | assumption | rfl); rfl; rfl; rfl; rfl; rfl; (exact Nat.le_of_ble_eq_true rfl); rfl; rfl; rfl)
  refine rNil ?_
  refine qSeq ?_
  refine wSeq ?_
  refine wRegion ?_
  refine rfa (off := 0) (s := 1) (r := false) rfl rfl rfl (Nat.succ_ne_zero _) rfl rfl rfl ?_
  (apply rlc (v := .int _ _) rfl rfl; (first | ((simp (disch := omega) only [↓app0, ↓appC, ↓updS, ↓updN, ↓hpS, ↓hpN]) <;> first | rfl | assumption) | assumption | rfl); rfl; rfl; rfl; rfl; rfl; rfl)
  refine rfa (off := 1) (s := 1) (r := false) rfl rfl rfl (Nat.succ_ne_zero _) rfl rfl rfl ?_
  (apply rlc (v := .int _ _) rfl rfl; (first | ((simp (disch := omega) only [↓app0, ↓appC, ↓updS, ↓updN, ↓hpS, ↓hpN]) <;> first | rfl | assumption) | assumption | rfl); rfl; rfl; rfl; rfl; rfl; rfl)
  (apply rlr (vs := [.int _ _, .int _ _, .int _ _, .int _ _]) rfl rfl; (first | ((simp (disch := omega) only [↓app0, ↓appC, ↓updS, ↓updN, ↓hpS, ↓hpN]) <;> first | rfl | assumption) | assumption | rfl); rfl; rfl; (exact Nat.le_of_ble_eq_true rfl); rfl; rfl; rfl; rfl)
  refine rbd (cs := [.int _ _, .int _ _, .int _ _, .int _ _, .int _ _, .int _ _]) rfl rfl rfl rfl rfl ?_
  refine ral rfl rfl rfl rfl rfl rfl ?_
  (apply rst (u := .agg [.int _ _, .int _ _, .int _ _, .int _ _, .int _ _, .int _ _]) rfl rfl rfl; (first | ((simp (disch := omega) only [↓app0, ↓appC, ↓updS, ↓updN, ↓hpS, ↓hpN]) <;> first | rfl | assumption) | assumption | rfl); rfl; rfl; rfl; rfl; rfl; (exact Nat.le_of_ble_eq_true rfl); rfl; rfl; rfl)
  refine rNil ?_
  refine qSeq ?_
  refine wSeq ?_
  refine wSeq ?_
  refine wRegion ?_
  refine rmB rfl rfl rfl rfl rfl ?_
  refine rNil ?_
  refine qSeq ?_
  refine wF rfl ?_
  refine wDraw [0, 0, 2, 6, 14, 0, 0, 64, 254, 511, 1023, 2047] rfl (by decide +kernel) ?_
  refine dmP rfl rfl rfl rfl rfl ?_
  refine dmP rfl rfl rfl rfl rfl ?_
  refine dnc (v := .ptr _ _ _) rfl rfl rfl rfl rfl rfl ?_
  refine dfa (off := 3) (s := 1) (r := false) rfl rfl rfl (Nat.succ_ne_zero _) rfl rfl rfl ?_
  (apply dlc (v := .view _ _ _) rfl rfl; (first | ((simp (disch := omega) only [↓app0, ↓appC, ↓updS, ↓updN, ↓hpS, ↓hpN]) <;> first | rfl | assumption) | assumption | rfl); rfl; rfl; rfl; rfl; rfl; rfl)
  refine dmI rfl rfl rfl rfl rfl ?_
  (apply dlr (vs := [.int _ _, .int _ _, .int _ _, .int _ _, .int _ _, .int _ _]) rfl rfl; (first | ((simp (disch := omega) only [↓app0, ↓appC, ↓updS, ↓updN, ↓hpS, ↓hpN]) <;> first | rfl | assumption) | assumption | rfl); rfl; rfl; (exact Nat.le_of_ble_eq_true rfl); rfl; rfl; rfl; rfl)
  refine dbs (es := [[.int _ _, .int _ _, .int _ _, .int _ _, .int _ _, .int _ _]]) rfl rfl rfl rfl (Nat.succ_ne_zero _) (Nat.le_of_ble_eq_true rfl) rfl rfl rfl rfl rfl ?_
  refine dop (o43v L (Sn.mk ((L.length : Nat) : Int) st ⟨2, l.tk, l.hd, l.ex⟩) (by omega) (sb := sb) (v1 := n + 13 + l.ws.length + 2) ?_ ?_ ?_ ?_ ?_) rfl rfl rfl rfl rfl rfl ?_
  · (first | omega | (first | ((simp (disch := omega) only [↓app0, ↓appC, ↓updS, ↓updN, ↓hpS, ↓hpN]) <;> first | rfl | assumption) | assumption | rfl) | (first | omega | assumption | (focus (simp; omega))))
  · (first | omega | (first | ((simp (disch := omega) only [↓app0, ↓appC, ↓updS, ↓updN, ↓hpS, ↓hpN]) <;> first | rfl | assumption) | assumption | rfl) | (first | omega | assumption | (focus (simp; omega))))
  · (first | omega | (first | ((simp (disch := omega) only [↓app0, ↓appC, ↓updS, ↓updN, ↓hpS, ↓hpN]) <;> first | rfl | assumption) | assumption | rfl) | (first | omega | assumption | (focus (simp; omega))))
  · (first | omega | (first | ((simp (disch := omega) only [↓app0, ↓appC, ↓updS, ↓updN, ↓hpS, ↓hpN]) <;> first | rfl | assumption) | assumption | rfl) | (first | omega | assumption | (focus (simp; omega))))
  · (first | omega | (first | ((simp (disch := omega) only [↓app0, ↓appC, ↓updS, ↓updN, ↓hpS, ↓hpN]) <;> first | rfl | assumption) | assumption | rfl) | (first | omega | assumption | (focus (simp; omega))))
  refine dnc (v := .ptr _ _ _) rfl rfl rfl rfl rfl rfl ?_
  refine dfa (off := 3) (s := 1) (r := false) rfl rfl rfl (Nat.succ_ne_zero _) rfl rfl rfl ?_
  (apply dst (u := .view _ _ _) rfl rfl rfl; (first | ((simp (disch := omega) only [↓app0, ↓appC, ↓updS, ↓updN, ↓hpS, ↓hpN]) <;> first | rfl | assumption) | assumption | rfl); rfl; rfl; rfl; rfl; rfl; (exact Nat.le_of_ble_eq_true rfl); rfl; rfl; rfl)
  refine dNilR 12 [3, 0, 0, 3, 3, 1, 0, 1, 0, 0, 0, 0] [(4, 7)] rfl rfl (by decide +kernel) ?_ ?_
  · (simp [ClearL, ids]; try omega)
  refine qSeq ?_
  refine wSeq ?_
  refine wRegion ?_
  (apply rlr (vs := [.int _ _, .int _ _, .int _ _, .int _ _]) rfl rfl; (first | ((simp (disch := omega) only [↓app0, ↓appC, ↓updS, ↓updN, ↓hpS, ↓hpN]) <;> first | rfl | assumption) | assumption | rfl); rfl; rfl; (exact Nat.le_of_ble_eq_true rfl); rfl; rfl; rfl; rfl)
  (apply rst (u := .agg [.int _ _, .int _ _, .int _ _, .int _ _]) rfl rfl rfl; (first | ((simp (disch := omega) only [↓app0, ↓appC, ↓updS, ↓updN, ↓hpS, ↓hpN]) <;> first | rfl | assumption) | assumption | rfl); rfl; rfl; rfl; rfl; rfl; (exact Nat.le_of_ble_eq_true rfl); rfl; rfl; rfl)
  refine rNil ?_
  refine qSeq ?_
  refine wRet ?_
  exact finO (resL_cons (resV_row rfl (by (first | ((simp (disch := omega) only [↓app0, ↓appC, ↓updS, ↓updN]) <;> first | rfl | assumption) | assumption | rfl)) rfl rfl (Nat.le_of_ble_eq_true rfl) rfl) resL_nil) rfl (leWr (by
    intro j hj
    simp only [List.map_cons, List.map_nil, List.mem_cons, List.not_mem_nil, or_false] at hj
    rcases hj with rfl | rfl | rfl | rfl | rfl | rfl <;> (simp (disch := omega) only [↓app0, ↓appC, ↓updS, ↓updN]) <;> first | rfl | (exact congrArg (fun z => some (Blk.mk z 6 79)) (by simp only [List.map_append]; rfl))) (fun j hj hn => by
    simp only [List.map_cons, List.map_nil, List.mem_cons, List.not_mem_nil, or_false, not_or] at hn
    simp (disch := omega) only [↓app0, ↓appC, ↓updS, ↓updN])) (Nat.le_refl _)

end Go.Proofs.Ytnkpjlpappmccaa
