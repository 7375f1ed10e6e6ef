import Derived.Test.YtnkpjlpappmccaaE5
namespace Go.Proofs.Ytnkpjlpappmccaa
open Go.V
set_option linter.unusedVariables false
set_option linter.unusedSimpArgs false
set_option maxRecDepth 20000
set_option maxHeartbeats 4000000

theorem o66z (nm : ByteArray) (tk hd ex c : Int) {h : Heap} {n : Nat} : V.Open En 66 [.agg [.str nm, .int .i64 tk, .int .i64 hd, .int .i64 ex, .nsl], .int .i64 c] h n (.int .i64 (-1)) [] (n + 2) := o66n (Lk.mk nm tk hd ex []) c rfl

theorem o65a (nm : ByteArray) (c st le nx : Int) (Ss : V) (hc : c ≠ -1) (hn : 0 ≤ nx ∧ nx ≤ 1000000) (hle : 0 ≤ le ∧ le ≤ 1000) {id : Nat} {h : Heap} {n : Nat} (hid : id < n) (hh : h id = some ⟨[[.int .i64 0, .int .i64 nx, .nsl, Ss]], 4, 38⟩) :
    V.Open En 65 [.ptr id 0 0, .agg [.int .i64 c, .int .i64 st, .int .i64 1, .int .i64 le, .str nm]] h n (.agg [.int .i64 1, .int .i64 nx, .int .i64 c, .int .i64 (0 + le)]) [(id, some ⟨[[.int .i64 0, .int .i64 (nx + 1), .view (n + 5) 0 1, Ss]], 4, 38⟩), (n + 5, some ⟨[(Lk.mk nm nx c (0 + le) []).V .nsl], 5, 46⟩)] (n + 9) := by
  refine V.Open.of_wp Try.func65 rfl (Nat.le_of_ble_eq_true rfl) ?_
  refine wSeq ?_
  refine wRegion ?_
  refine rbx (u := .agg [.int _ _, .int _ _, .int _ _, .int _ _, .str _]) rfl rfl rfl rfl rfl rfl rfl ?_
  refine ral rfl rfl rfl rfl rfl rfl ?_
  refine rNil ?_
  refine qSeq ?_
  refine wSeq ?_
  refine wRegion ?_
  refine rmP rfl rfl rfl rfl rfl ?_
  refine rfa (off := 4) (s := 1) (r := false) rfl rfl rfl (Nat.succ_ne_zero _) rfl rfl rfl ?_
  (apply rlc (v := .str _) rfl rfl; (first | ((simp (disch := omega) only [↓app0, ↓appC, ↓updS, ↓updN, ↓hpS, ↓hpN]) <;> first | rfl | assumption) | assumption | rfl); rfl; rfl; rfl; rfl; rfl; rfl)
  refine rop (o24n nm 0 nx Ss ?_ ?_) rfl rfl rfl rfl rfl rfl ?_
  · (first | omega | (first | ((simp (disch := omega) only [↓app0, ↓appC, ↓updS, ↓updN, ↓hpS, ↓hpN]) <;> first | rfl | assumption) | assumption | rfl) | (first | omega | assumption | (focus (simp; omega))))
  · (first | omega | (first | ((simp (disch := omega) only [↓app0, ↓appC, ↓updS, ↓updN, ↓hpS, ↓hpN]) <;> first | rfl | assumption) | assumption | rfl) | (first | omega | assumption | (focus (simp; omega))))
  refine rmT rfl rfl rfl rfl rfl ?_
  refine rex rfl rfl rfl rfl rfl rfl ?_
  refine rexB rfl rfl rfl rfl rfl rfl (fun h => absurd h (by decide)) ?_
  intro h1_6
  refine raI rfl rfl rfl rfl rfl ?_
  refine raB rfl rfl rfl rfl rfl ?_
  refine rNil ?_
  refine qSeq ?_
  refine wSeq ?_
  refine wSeq ?_
  refine wRegion ?_
  refine rmB rfl rfl rfl rfl rfl ?_
  refine rnot (c := false) rfl rfl rfl rfl rfl ?_
  refine rNil ?_
  refine qSeq ?_
  refine wT rfl ?_
  refine wSeq ?_
  refine wSeq ?_
  refine wRegion ?_
  refine rmP rfl rfl rfl rfl rfl ?_
  refine rnc (v := .ptr _ _ _) rfl rfl rfl rfl rfl rfl ?_
  refine rfa (off := 2) (s := 1) (r := false) rfl rfl rfl (Nat.succ_ne_zero _) rfl rfl rfl ?_
  (apply rlc (v := .nsl) rfl rfl; (first | ((simp (disch := omega) only [↓app0, ↓appC, ↓updS, ↓updN, ↓hpS, ↓hpN]) <;> first | rfl | assumption) | assumption | rfl); rfl; rfl; rfl; rfl; rfl; rfl)
  refine rll rfl rfl rfl rfl rfl rfl ?_
  refine req rfl rfl rfl rfl rfl rfl (fun h => absurd h (by decide)) ?_
  intro h3_5
  refine rNil ?_
  refine qSeq ?_
  refine wF rfl ?_
  refine wSkip ?_
  refine qSeq ?_
  refine wDraw [0, 0, 2, 6, 14, 0, 0, 64, 192, 448, 1022, 2047, 4095, 8191] rfl (by decide +kernel) ?_
  refine dmP rfl rfl rfl rfl rfl ?_
  refine dmP rfl rfl rfl rfl rfl ?_
  refine dnc (v := .ptr _ _ _) rfl rfl rfl rfl rfl rfl ?_
  refine dfa (off := 2) (s := 1) (r := false) rfl rfl rfl (Nat.succ_ne_zero _) rfl rfl rfl ?_
  (apply dlc (v := .nsl) rfl rfl; (first | ((simp (disch := omega) only [↓app0, ↓appC, ↓updS, ↓updN, ↓hpS, ↓hpN]) <;> first | rfl | assumption) | assumption | rfl); rfl; rfl; rfl; rfl; rfl; rfl)
  refine dmI rfl rfl rfl rfl rfl ?_
  refine dfa (off := 4) (s := 1) (r := false) rfl rfl rfl (Nat.succ_ne_zero _) rfl rfl rfl ?_
  (apply dlc (v := .str _) rfl rfl; (first | ((simp (disch := omega) only [↓app0, ↓appC, ↓updS, ↓updN, ↓hpS, ↓hpN]) <;> first | rfl | assumption) | assumption | rfl); rfl; rfl; rfl; rfl; rfl; rfl)
  refine dbd (cs := [.str _, .int _ _, .int _ _, .int _ _, _]) rfl rfl rfl rfl rfl ?_
  refine dbs (es := [[.str _, .int _ _, .int _ _, .int _ _, _]]) rfl rfl rfl rfl (Nat.succ_ne_zero _) (Nat.le_of_ble_eq_true rfl) rfl rfl rfl rfl rfl ?_
  refine dop (o78n (Lk.mk nm 0 (-1) 0 []) .nsl (v1 := n + 4) ?_ ?_) rfl rfl rfl rfl rfl rfl ?_
  · (first | omega | (first | ((simp (disch := omega) only [↓app0, ↓appC, ↓updS, ↓updN, ↓hpS, ↓hpN]) <;> first | rfl | assumption) | assumption | rfl) | (first | omega | assumption | (focus (simp; omega))))
  · (first | omega | (first | ((simp (disch := omega) only [↓app0, ↓appC, ↓updS, ↓updN, ↓hpS, ↓hpN]) <;> first | rfl | assumption) | assumption | rfl) | (first | omega | assumption | (focus (simp; omega))))
  refine dnc (v := .ptr _ _ _) rfl rfl rfl rfl rfl rfl ?_
  refine dfa (off := 2) (s := 1) (r := false) rfl rfl rfl (Nat.succ_ne_zero _) rfl rfl rfl ?_
  (apply dst (u := .view _ _ _) rfl rfl rfl; (first | ((simp (disch := omega) only [↓app0, ↓appC, ↓updS, ↓updN, ↓hpS, ↓hpN]) <;> first | rfl | assumption) | assumption | rfl); rfl; rfl; rfl; rfl; rfl; (exact Nat.le_of_ble_eq_true rfl); rfl; rfl; rfl)
  refine dNilR 14 [3, 0, 0, 3, 3, 0, 1, 0, 0, 1, 0, 0, 0, 0] [(4, 9)] rfl rfl (by decide +kernel) ?_ ?_
  · (simp [ClearL, ids]; try omega)
  refine qSeq ?_
  refine wSeq ?_
  refine wRegion ?_
  refine rmP rfl rfl rfl rfl rfl ?_
  refine rnc (v := .ptr _ _ _) rfl rfl rfl rfl rfl rfl ?_
  refine rfa (off := 2) (s := 1) (r := false) rfl rfl rfl (Nat.succ_ne_zero _) rfl rfl rfl ?_
  (apply rlc (v := .view _ _ _) rfl rfl; (first | ((simp (disch := omega) only [↓app0, ↓appC, ↓updS, ↓updN, ↓hpS, ↓hpN]) <;> first | rfl | assumption) | assumption | rfl); rfl; rfl; rfl; rfl; rfl; rfl)
  refine rmI rfl rfl rfl rfl rfl ?_
  (apply rixv rfl rfl rfl rfl; (first | ((simp (disch := omega) only [↓app0, ↓appC, ↓updS, ↓updN, ↓hpS, ↓hpN]) <;> first | rfl | assumption) | assumption | rfl); rfl; (first | omega | assumption | (focus (simp; omega))); (first | omega | assumption | (focus (simp; omega))); rfl; rfl; rfl)
  refine raP rfl rfl rfl rfl rfl ?_
  refine rNil ?_
  refine qSeq ?_
  refine wSeq ?_
  refine wBlock ?_
  refine wSeq ?_
  refine wDraw [0, 1, 3, 7, 0, 16, 63, 127, 255, 511, 1023, 255, 2303, 8191, 16383, 32767, 65535] rfl (by decide +kernel) ?_
  refine dmP rfl rfl rfl rfl rfl ?_
  refine dnc (v := .ptr _ _ _) rfl rfl rfl rfl rfl rfl ?_
  refine dfa (off := 2) (s := 1) (r := false) rfl rfl rfl (Nat.succ_ne_zero _) rfl rfl rfl ?_
  (apply dlc (v := .int _ _) rfl rfl; (first | ((simp (disch := omega) only [↓app0, ↓appC, ↓updS, ↓updN, ↓hpS, ↓hpN]) <;> first | rfl | assumption) | assumption | rfl); rfl; rfl; rfl; rfl; rfl; rfl)
  refine dfa (off := 0) (s := 1) (r := false) rfl rfl rfl (Nat.succ_ne_zero _) rfl rfl rfl ?_
  (apply dlc (v := .int _ _) rfl rfl; (first | ((simp (disch := omega) only [↓app0, ↓appC, ↓updS, ↓updN, ↓hpS, ↓hpN]) <;> first | rfl | assumption) | assumption | rfl); rfl; rfl; rfl; rfl; rfl; rfl)
  refine deq rfl rfl rfl rfl rfl rfl (fun h => absurd h (fun h => hc h.symm)) ?_
  intro h7_6
  refine dmB rfl rfl rfl rfl rfl ?_
  refine dmP rfl rfl rfl rfl rfl ?_
  refine dnc (v := .ptr _ _ _) rfl rfl rfl rfl rfl rfl ?_
  (apply dlr (vs := [.str _, .int _ _, .int _ _, .int _ _, _]) rfl rfl; (first | ((simp (disch := omega) only [↓app0, ↓appC, ↓updS, ↓updN, ↓hpS, ↓hpN]) <;> first | rfl | assumption) | assumption | rfl); rfl; rfl; (exact Nat.le_of_ble_eq_true rfl); rfl; rfl; rfl; rfl)
  refine dfa (off := 0) (s := 1) (r := false) rfl rfl rfl (Nat.succ_ne_zero _) rfl rfl rfl ?_
  (apply dlc (v := .int _ _) rfl rfl; (first | ((simp (disch := omega) only [↓app0, ↓appC, ↓updS, ↓updN, ↓hpS, ↓hpN]) <;> first | rfl | assumption) | assumption | rfl); rfl; rfl; rfl; rfl; rfl; rfl)
  refine dop (o66n (Lk.mk nm 0 (-1) 0 []) c rfl) rfl rfl rfl rfl rfl rfl ?_
  refine dge rfl rfl rfl rfl rfl rfl (fun h => absurd h (by show ¬ ((-1 : Int) ≥ 0); decide)) ?_
  intro h7_14
  refine dpk (e := false) rfl rfl rfl rfl rfl rfl ?_
  refine daB rfl rfl rfl rfl rfl ?_
  refine dNilR 17 [0, 0, 0, 3, 1, 0, 1, 0, 0, 0, 0, 1, 0, 1, 0, 0, 0] [] rfl rfl (by decide +kernel) trivial ?_
  refine qSeq ?_
  refine wF rfl ?_
  refine wSeq ?_
  refine wRegion ?_
  refine rmP rfl rfl rfl rfl rfl ?_
  refine rnc (v := .ptr _ _ _) rfl rfl rfl rfl rfl rfl ?_
  refine rfa (off := 2) (s := 1) (r := false) rfl rfl rfl (Nat.succ_ne_zero _) rfl rfl rfl ?_
  (apply rlc (v := .int _ _) rfl rfl; (first | ((simp (disch := omega) only [↓app0, ↓appC, ↓updS, ↓updN, ↓hpS, ↓hpN]) <;> first | rfl | assumption) | assumption | rfl); rfl; rfl; rfl; rfl; rfl; rfl)
  refine req rfl rfl rfl rfl rfl rfl ?_ (fun h => absurd (rfl) h)
  intro h9_4
  refine raB rfl rfl rfl rfl rfl ?_
  refine rNil ?_
  refine qSeq ?_
  refine wT rfl ?_
  refine wSeq ?_
  refine wRegion ?_
  refine rmP rfl rfl rfl rfl rfl ?_
  refine rmP rfl rfl rfl rfl rfl ?_
  refine rfa (off := 0) (s := 1) (r := false) rfl rfl rfl (Nat.succ_ne_zero _) rfl rfl rfl ?_
  (apply rlc (v := .int _ _) rfl rfl; (first | ((simp (disch := omega) only [↓app0, ↓appC, ↓updS, ↓updN, ↓hpS, ↓hpN]) <;> first | rfl | assumption) | assumption | rfl); rfl; rfl; rfl; rfl; rfl; rfl)
  refine rfa (off := 3) (s := 1) (r := false) rfl rfl rfl (Nat.succ_ne_zero _) rfl rfl rfl ?_
  (apply rlc (v := .int _ _) rfl rfl; (first | ((simp (disch := omega) only [↓app0, ↓appC, ↓updS, ↓updN, ↓hpS, ↓hpN]) <;> first | rfl | assumption) | assumption | rfl); rfl; rfl; rfl; rfl; rfl; rfl)
  refine rop (o77 (Lk.mk nm 0 (-1) 0 []) .nsl 0 nx c le (.view (n + 5) 0 1) Ss (by decide) hn hle ?_ ?_ ?_ ?_ ?_) rfl rfl rfl rfl rfl rfl ?_
  · (first | omega | (first | ((simp (disch := omega) only [↓app0, ↓appC, ↓updS, ↓updN, ↓hpS, ↓hpN]) <;> first | rfl | assumption) | assumption | rfl) | (first | omega | assumption | (focus (simp; omega))))
  · (first | omega | (first | ((simp (disch := omega) only [↓app0, ↓appC, ↓updS, ↓updN, ↓hpS, ↓hpN]) <;> first | rfl | assumption) | assumption | rfl) | (first | omega | assumption | (focus (simp; omega))))
  · (first | omega | (first | ((simp (disch := omega) only [↓app0, ↓appC, ↓updS, ↓updN, ↓hpS, ↓hpN]) <;> first | rfl | assumption) | assumption | rfl) | (first | omega | assumption | (focus (simp; omega))))
  · (first | omega | (first | ((simp (disch := omega) only [↓app0, ↓appC, ↓updS, ↓updN, ↓hpS, ↓hpN]) <;> first | rfl | assumption) | assumption | rfl) | (first | omega | assumption | (focus (simp; omega))))
  · (first | omega | (first | ((simp (disch := omega) only [↓app0, ↓appC, ↓updS, ↓updN, ↓hpS, ↓hpN]) <;> first | rfl | assumption) | assumption | rfl) | (first | omega | assumption | (focus (simp; omega))))
  refine rNil ?_
  refine qSeq ?_
  refine wSeq ?_
  refine wRegion ?_
  refine rmP rfl rfl rfl rfl rfl ?_
  refine rop (o68 (Lk.mk nm nx c (0 + le) []) .nsl 1 ?_ ?_) rfl rfl rfl rfl rfl rfl ?_
  · (first | omega | (first | ((simp (disch := omega) only [↓app0, ↓appC, ↓updS, ↓updN, ↓hpS, ↓hpN]) <;> first | rfl | assumption) | assumption | rfl) | (first | omega | assumption | (focus (simp; omega))))
  · (first | omega | (first | ((simp (disch := omega) only [↓app0, ↓appC, ↓updS, ↓updN, ↓hpS, ↓hpN]) <;> first | rfl | assumption) | assumption | rfl) | (first | omega | assumption | (focus (simp; omega))))
  (apply rst (u := .agg [.int _ _, .int _ _, .int _ _, .int _ _]) rfl rfl rfl; (first | ((simp (disch := omega) only [↓app0, ↓appC, ↓updS, ↓updN, ↓hpS, ↓hpN]) <;> first | rfl | assumption) | assumption | rfl); rfl; rfl; rfl; rfl; rfl; (exact Nat.le_of_ble_eq_true rfl); rfl; rfl; rfl)
  refine rNil ?_
  refine qSeq ?_
  refine wRet ?_
  refine qBlockR ?_
  refine qSeqR ?_
  exact finO (resL_cons (resV_row rfl (by (first | ((simp (disch := omega) only [↓app0, ↓appC, ↓updS, ↓updN]) <;> first | rfl | assumption) | assumption | rfl)) rfl rfl (Nat.le_of_ble_eq_true rfl) rfl) resL_nil) rfl (leWr (by
    intro j hj
    simp only [List.map_cons, List.map_nil, List.mem_cons, List.not_mem_nil, or_false] at hj
    rcases hj with rfl | rfl <;> (simp (disch := omega) only [↓app0, ↓appC, ↓updS, ↓updN]) <;> first | rfl | (fail)) (fun j hj hn => by
    simp only [List.map_cons, List.map_nil, List.mem_cons, List.not_mem_nil, or_false, not_or] at hn
    simp (disch := omega) only [↓app0, ↓appC, ↓updS, ↓updN])) (Nat.le_refl _)

theorem o65b (l : Lk) (c st le nx : Int) (Ss : V) (hc : c ≠ -1) (hd1 : l.hd ≠ -1) (hd2 : ¬ l.hd = c) {id lb : Nat}  {h : Heap} {n : Nat} (hw0 : l.ws = []) (hid : id < n) (hlb : lb < n) (hne : lb ≠ id) (hh : h id = some ⟨[[.int .i64 0, .int .i64 nx, .view lb 0 1, Ss]], 4, 38⟩) (k1 : h lb = some ⟨[l.V (.nsl)], 5, 46⟩) :
    V.Open En 65 [.ptr id 0 0, .agg [.int .i64 c, .int .i64 st, .int .i64 1, .int .i64 le, .str l.nm]] h n (.agg [.int .i64 2, .int .i64 l.tk, .int .i64 l.hd, .int .i64 l.ex]) [(lb, some ⟨[l.V (.view (n + 7) 0 1)], 5, 46⟩), (n + 7, some ⟨[wtV (c, le)], 2, 93⟩)] (n + 9) := by
  obtain ⟨lnm, ltk, lhd, lex, lws⟩ := l
  dsimp only at hw0 hd1 hd2 ⊢
  subst hw0
  unfold Lk.V at k1
  refine V.Open.of_wp Try.func65 rfl (Nat.le_of_ble_eq_true rfl) ?_
  refine wSeq ?_
  refine wRegion ?_
  refine rbx (u := .agg [.int _ _, .int _ _, .int _ _, .int _ _, .str _]) rfl rfl rfl rfl rfl rfl rfl ?_
  refine ral rfl rfl rfl rfl rfl rfl ?_
  refine rNil ?_
  refine qSeq ?_
  refine wSeq ?_
  refine wRegion ?_
  refine rmP rfl rfl rfl rfl rfl ?_
  refine rfa (off := 4) (s := 1) (r := false) rfl rfl rfl (Nat.succ_ne_zero _) rfl rfl rfl ?_
  (apply rlc (v := .str _) rfl rfl; (first | ((simp (disch := omega) only [↓app0, ↓appC, ↓updS, ↓updN, ↓hpS, ↓hpN]) <;> first | rfl | assumption) | assumption | rfl); rfl; rfl; rfl; rfl; rfl; rfl)
  refine rop (o24v (Lk.mk lnm ltk lhd lex []) (.nsl) rfl 0 nx Ss (lb := lb) ?_ ?_ ?_ ?_) rfl rfl rfl rfl rfl rfl ?_
  · (first | omega | (first | ((simp (disch := omega) only [↓app0, ↓appC, ↓updS, ↓updN, ↓hpS, ↓hpN]) <;> first | rfl | assumption) | assumption | rfl) | (first | omega | assumption | (focus (simp; omega))))
  · (first | omega | (first | ((simp (disch := omega) only [↓app0, ↓appC, ↓updS, ↓updN, ↓hpS, ↓hpN]) <;> first | rfl | assumption) | assumption | rfl) | (first | omega | assumption | (focus (simp; omega))))
  · (first | omega | (first | ((simp (disch := omega) only [↓app0, ↓appC, ↓updS, ↓updN, ↓hpS, ↓hpN]) <;> first | rfl | assumption) | assumption | rfl) | (first | omega | assumption | (focus (simp; omega))))
  · (first | omega | (first | ((simp (disch := omega) only [↓app0, ↓appC, ↓updS, ↓updN, ↓hpS, ↓hpN]) <;> first | rfl | assumption) | assumption | rfl) | (first | omega | assumption | (focus (simp; omega))))
  refine rmT rfl rfl rfl rfl rfl ?_
  refine rex rfl rfl rfl rfl rfl rfl ?_
  refine rexB rfl rfl rfl rfl rfl rfl ?_ (fun h => by cases h)
  intro h1_6
  refine raI rfl rfl rfl rfl rfl ?_
  refine raB rfl rfl rfl rfl rfl ?_
  refine rNil ?_
  refine qSeq ?_
  refine wSeq ?_
  refine wSeq ?_
  refine wRegion ?_
  refine rmB rfl rfl rfl rfl rfl ?_
  refine rnot (c := true) rfl rfl rfl rfl rfl ?_
  refine rNil ?_
  refine qSeq ?_
  refine wF rfl ?_
  refine wSkip ?_
  refine qSeq ?_
  refine wSeq ?_
  refine wRegion ?_
  refine rmP rfl rfl rfl rfl rfl ?_
  refine rnc (v := .ptr _ _ _) rfl rfl rfl rfl rfl rfl ?_
  refine rfa (off := 2) (s := 1) (r := false) rfl rfl rfl (Nat.succ_ne_zero _) rfl rfl rfl ?_
  (apply rlc (v := .view _ _ _) rfl rfl; (first | ((simp (disch := omega) only [↓app0, ↓appC, ↓updS, ↓updN, ↓hpS, ↓hpN]) <;> first | rfl | assumption) | assumption | rfl); rfl; rfl; rfl; rfl; rfl; rfl)
  refine rmI rfl rfl rfl rfl rfl ?_
  (apply rixv rfl rfl rfl rfl; (first | ((simp (disch := omega) only [↓app0, ↓appC, ↓updS, ↓updN, ↓hpS, ↓hpN]) <;> first | rfl | assumption) | assumption | rfl); rfl; (first | omega | assumption | (focus (simp; omega))); (first | omega | assumption | (focus (simp; omega))); rfl; rfl; rfl)
  refine raP rfl rfl rfl rfl rfl ?_
  refine rNil ?_
  refine qSeq ?_
  refine wSeq ?_
  refine wBlock ?_
  refine wSeq ?_
  refine wDraw [0, 1, 3, 7, 0, 16, 63, 127, 255, 511, 1023, 255, 2303, 8191, 16383, 32767, 65535] rfl (by decide +kernel) ?_
  refine dmP rfl rfl rfl rfl rfl ?_
  refine dnc (v := .ptr _ _ _) rfl rfl rfl rfl rfl rfl ?_
  refine dfa (off := 2) (s := 1) (r := false) rfl rfl rfl (Nat.succ_ne_zero _) rfl rfl rfl ?_
  (apply dlc (v := .int _ _) rfl rfl; (first | ((simp (disch := omega) only [↓app0, ↓appC, ↓updS, ↓updN, ↓hpS, ↓hpN]) <;> first | rfl | assumption) | assumption | rfl); rfl; rfl; rfl; rfl; rfl; rfl)
  refine dfa (off := 0) (s := 1) (r := false) rfl rfl rfl (Nat.succ_ne_zero _) rfl rfl rfl ?_
  (apply dlc (v := .int _ _) rfl rfl; (first | ((simp (disch := omega) only [↓app0, ↓appC, ↓updS, ↓updN, ↓hpS, ↓hpN]) <;> first | rfl | assumption) | assumption | rfl); rfl; rfl; rfl; rfl; rfl; rfl)
  refine deq rfl rfl rfl rfl rfl rfl (fun h => absurd h (hd2)) ?_
  intro h7_6
  refine dmB rfl rfl rfl rfl rfl ?_
  refine dmP rfl rfl rfl rfl rfl ?_
  refine dnc (v := .ptr _ _ _) rfl rfl rfl rfl rfl rfl ?_
  (apply dlr (vs := [.str _, .int _ _, .int _ _, .int _ _, _]) rfl rfl; (first | ((simp (disch := omega) only [↓app0, ↓appC, ↓updS, ↓updN, ↓hpS, ↓hpN]) <;> first | rfl | assumption) | assumption | rfl); rfl; rfl; (exact Nat.le_of_ble_eq_true rfl); rfl; rfl; rfl; rfl)
  refine dfa (off := 0) (s := 1) (r := false) rfl rfl rfl (Nat.succ_ne_zero _) rfl rfl rfl ?_
  (apply dlc (v := .int _ _) rfl rfl; (first | ((simp (disch := omega) only [↓app0, ↓appC, ↓updS, ↓updN, ↓hpS, ↓hpN]) <;> first | rfl | assumption) | assumption | rfl); rfl; rfl; rfl; rfl; rfl; rfl)
  refine dop (o66z lnm ltk lhd lex c) rfl rfl rfl rfl rfl rfl ?_
  refine dge rfl rfl rfl rfl rfl rfl (fun h => absurd h (by show ¬ ((-1 : Int) ≥ 0); decide)) ?_
  intro h7_14
  refine dpk (e := false) rfl rfl rfl rfl rfl rfl ?_
  refine daB rfl rfl rfl rfl rfl ?_
  refine dNilR 17 [0, 0, 0, 3, 1, 0, 1, 0, 0, 0, 0, 1, 0, 1, 0, 0, 0] [] rfl rfl (by decide +kernel) trivial ?_
  refine qSeq ?_
  refine wF rfl ?_
  refine wSeq ?_
  refine wRegion ?_
  refine rmP rfl rfl rfl rfl rfl ?_
  refine rnc (v := .ptr _ _ _) rfl rfl rfl rfl rfl rfl ?_
  refine rfa (off := 2) (s := 1) (r := false) rfl rfl rfl (Nat.succ_ne_zero _) rfl rfl rfl ?_
  (apply rlc (v := .int _ _) rfl rfl; (first | ((simp (disch := omega) only [↓app0, ↓appC, ↓updS, ↓updN, ↓hpS, ↓hpN]) <;> first | rfl | assumption) | assumption | rfl); rfl; rfl; rfl; rfl; rfl; rfl)
  refine req rfl rfl rfl rfl rfl rfl (fun h => absurd h (hd1)) ?_
  intro h9_4
  refine raB rfl rfl rfl rfl rfl ?_
  refine rNil ?_
  refine qSeq ?_
  refine wF rfl ?_
  refine wSeq ?_
  refine wRegion ?_
  refine rmP rfl rfl rfl rfl rfl ?_
  refine rnc (v := .ptr _ _ _) rfl rfl rfl rfl rfl rfl ?_
  refine rfa (off := 4) (s := 1) (r := false) rfl rfl rfl (Nat.succ_ne_zero _) rfl rfl rfl ?_
  (apply rlc (v := .nsl) rfl rfl; (first | ((simp (disch := omega) only [↓app0, ↓appC, ↓updS, ↓updN, ↓hpS, ↓hpN]) <;> first | rfl | assumption) | assumption | rfl); rfl; rfl; rfl; rfl; rfl; rfl)
  refine rll rfl rfl rfl rfl rfl rfl ?_
  refine req rfl rfl rfl rfl rfl rfl (fun h => absurd h (by first | decide | (show ¬ ((l.ws.length : Int) = 4); omega))) ?_
  intro h12_5
  refine raB rfl rfl rfl rfl rfl ?_
  refine rNil ?_
  refine qSeq ?_
  refine wF rfl ?_
  refine wSkip ?_
  refine qBlock ?_
  refine qSeq ?_
  refine wSeq ?_
  refine wDraw [0, 0, 2, 6, 14, 0, 32, 0, 128, 480, 992, 2046, 4095, 8191, 16383] rfl (by decide +kernel) ?_
  refine dmP rfl rfl rfl rfl rfl ?_
  refine dmP rfl rfl rfl rfl rfl ?_
  refine dnc (v := .ptr _ _ _) rfl rfl rfl rfl rfl rfl ?_
  refine dfa (off := 4) (s := 1) (r := false) rfl rfl rfl (Nat.succ_ne_zero _) rfl rfl rfl ?_
  (apply dlc (v := .nsl) rfl rfl; (first | ((simp (disch := omega) only [↓app0, ↓appC, ↓updS, ↓updN, ↓hpS, ↓hpN]) <;> first | rfl | assumption) | assumption | rfl); rfl; rfl; rfl; rfl; rfl; rfl)
  refine dfa (off := 0) (s := 1) (r := false) rfl rfl rfl (Nat.succ_ne_zero _) rfl rfl rfl ?_
  (apply dlc (v := .int _ _) rfl rfl; (first | ((simp (disch := omega) only [↓app0, ↓appC, ↓updS, ↓updN, ↓hpS, ↓hpN]) <;> first | rfl | assumption) | assumption | rfl); rfl; rfl; rfl; rfl; rfl; rfl)
  refine dfa (off := 3) (s := 1) (r := false) rfl rfl rfl (Nat.succ_ne_zero _) rfl rfl rfl ?_
  (apply dlc (v := .int _ _) rfl rfl; (first | ((simp (disch := omega) only [↓app0, ↓appC, ↓updS, ↓updN, ↓hpS, ↓hpN]) <;> first | rfl | assumption) | assumption | rfl); rfl; rfl; rfl; rfl; rfl; rfl)
  refine dbd (cs := [.int _ _, .int _ _]) rfl rfl rfl rfl rfl ?_
  refine dbs (es := [[.int _ _, .int _ _]]) rfl rfl rfl rfl (Nat.succ_ne_zero _) (Nat.le_of_ble_eq_true rfl) rfl rfl rfl rfl rfl ?_
  (apply dan (s' := 16) (es := [[.int _ _, .int _ _]]) rfl rfl rfl rfl (Nat.succ_ne_zero _); (first | rfl | (apply srcView rfl; (first | ((simp (disch := omega) only [↓app0, ↓appC, ↓updS, ↓updN, ↓hpS, ↓hpN]) <;> first | rfl | assumption) | assumption | rfl); (first | exact Nat.le_refl _ | omega); rfl)); (first | rfl | assumption | (focus (simp; done)) | (intro _ _; simp_all)); (first | omega | (focus (simp only [List.length_cons, List.length_nil]; omega)) | exact Nat.le_of_ble_eq_true rfl | ((show (_ + 1) * _ ≤ _); omega) | ((show _ + 1 ≤ _); omega)); (first | omega | (focus (simp only [List.length_cons, List.length_nil]; omega)) | exact Nat.le_of_ble_eq_true rfl | ((show (_ + 1) * _ ≤ _); omega) | ((show _ + 1 ≤ _); omega)); (first | omega | (focus (simp only [List.length_cons, List.length_nil]; omega)) | exact Nat.le_of_ble_eq_true rfl | ((show (_ + 1) * _ ≤ _); omega) | ((show _ + 1 ≤ _); omega)); rfl; rfl; rfl)
  refine dnc (v := .ptr _ _ _) rfl rfl rfl rfl rfl rfl ?_
  refine dfa (off := 4) (s := 1) (r := false) rfl rfl rfl (Nat.succ_ne_zero _) rfl rfl rfl ?_
  (apply dst (u := .view _ _ _) rfl rfl rfl; (first | ((simp (disch := omega) only [↓app0, ↓appC, ↓updS, ↓updN, ↓hpS, ↓hpN]) <;> first | rfl | assumption) | assumption | rfl); rfl; rfl; rfl; rfl; rfl; (exact Nat.le_of_ble_eq_true rfl); rfl; rfl; rfl)
  refine dNilR 15 [3, 0, 0, 3, 3, 0, 1, 0, 1, 0, 1, 0, 0, 0, 0] [(4, 10)] rfl rfl (by decide +kernel) ?_ ?_
  · (simp [ClearL, ids]; try omega)
  refine qSeq ?_
  refine wSeq ?_
  refine wRegion ?_
  refine rmP rfl rfl rfl rfl rfl ?_
  refine rop (o68 (Lk.mk lnm ltk lhd lex []) (.view (n + 7) 0 1) 2 (lb := lb) ?_ ?_) rfl rfl rfl rfl rfl rfl ?_
  · (first | omega | (first | ((simp (disch := omega) only [↓app0, ↓appC, ↓updS, ↓updN, ↓hpS, ↓hpN]) <;> first | rfl | assumption) | assumption | rfl) | (first | omega | assumption | (focus (simp; omega))))
  · (first | omega | (first | ((simp (disch := omega) only [↓app0, ↓appC, ↓updS, ↓updN, ↓hpS, ↓hpN]) <;> first | rfl | assumption) | assumption | rfl) | (first | omega | assumption | (focus (simp; omega))))
  (apply rst (u := .agg [.int _ _, .int _ _, .int _ _, .int _ _]) rfl rfl rfl; (first | ((simp (disch := omega) only [↓app0, ↓appC, ↓updS, ↓updN, ↓hpS, ↓hpN]) <;> first | rfl | assumption) | assumption | rfl); rfl; rfl; rfl; rfl; rfl; (exact Nat.le_of_ble_eq_true rfl); rfl; rfl; rfl)
  refine rNil ?_
  refine qSeq ?_
  refine wRet ?_
  exact finO (resL_cons (resV_row rfl (by (first | ((simp (disch := omega) only [↓app0, ↓appC, ↓updS, ↓updN]) <;> first | rfl | assumption) | assumption | rfl)) rfl rfl (Nat.le_of_ble_eq_true rfl) rfl) resL_nil) rfl (leWr (by
    intro j hj
    simp only [List.map_cons, List.map_nil, List.mem_cons, List.not_mem_nil, or_false] at hj
    rcases hj with rfl | rfl <;> (simp (disch := omega) only [↓app0, ↓appC, ↓updS, ↓updN]) <;> first | rfl | (exact congrArg (fun z => some (Blk.mk z 2 93)) (by simp only [List.map_append]; rfl))) (fun j hj hn => by
    simp only [List.map_cons, List.map_nil, List.mem_cons, List.not_mem_nil, or_false, not_or] at hn
    simp (disch := omega) only [↓app0, ↓appC, ↓updS, ↓updN])) (Nat.le_refl _)

theorem o65c (l : Lk) (c st le nx : Int) (Ss : V) (hc : c ≠ -1) (hd1 : l.hd ≠ -1) (hd2 : ¬ l.hd = c) {id lb : Nat} {wb : Nat} {h : Heap} {n : Nat} (hL : l.ws.length ≤ 3) (hwx : wix c l.ws = -1) (hwb : wb < n) (hw1 : wb ≠ id) (hw2 : wb ≠ lb) (k2 : h wb = some ⟨l.ws.map wtV, 2, 93⟩) (hid : id < n) (hlb : lb < n) (hne : lb ≠ id) (hh : h id = some ⟨[[.int .i64 0, .int .i64 nx, .view lb 0 1, Ss]], 4, 38⟩) (k1 : h lb = some ⟨[l.V (.view wb 0 l.ws.length)], 5, 46⟩) :
    V.Open En 65 [.ptr id 0 0, .agg [.int .i64 c, .int .i64 st, .int .i64 1, .int .i64 le, .str l.nm]] h n (.agg [.int .i64 2, .int .i64 l.tk, .int .i64 l.hd, .int .i64 l.ex]) [(lb, some ⟨[l.V (.view (n + 6 + l.ws.length + 1) 0 (l.ws.length + 1))], 5, 46⟩), (wb, none), (n + 6 + l.ws.length + 1, some ⟨(l.ws ++ [(c, le)]).map wtV, 2, 93⟩)] (n + 9 + l.ws.length) := by
  unfold Lk.V at k1
  refine V.Open.of_wp Try.func65 rfl (Nat.le_of_ble_eq_true rfl) ?_
  refine wSeq ?_
  refine wRegion ?_
  refine rbx (u := .agg [.int _ _, .int _ _, .int _ _, .int _ _, .str _]) rfl rfl rfl rfl rfl rfl rfl ?_
  refine ral rfl rfl rfl rfl rfl rfl ?_
  refine rNil ?_
  refine qSeq ?_
  refine wSeq ?_
  refine wRegion ?_
  refine rmP rfl rfl rfl rfl rfl ?_
  refine rfa (off := 4) (s := 1) (r := false) rfl rfl rfl (Nat.succ_ne_zero _) rfl rfl rfl ?_
  (apply rlc (v := .str _) rfl rfl; (first | ((simp (disch := omega) only [↓app0, ↓appC, ↓updS, ↓updN, ↓hpS, ↓hpN]) <;> first | rfl | assumption) | assumption | rfl); rfl; rfl; rfl; rfl; rfl; rfl)
  refine rop (o24v l (.view wb 0 l.ws.length) rfl 0 nx Ss (lb := lb) ?_ ?_ ?_ ?_) rfl rfl rfl rfl rfl rfl ?_
  · (first | omega | (first | ((simp (disch := omega) only [↓app0, ↓appC, ↓updS, ↓updN, ↓hpS, ↓hpN]) <;> first | rfl | assumption) | assumption | rfl) | (first | omega | assumption | (focus (simp; omega))))
  · (first | omega | (first | ((simp (disch := omega) only [↓app0, ↓appC, ↓updS, ↓updN, ↓hpS, ↓hpN]) <;> first | rfl | assumption) | assumption | rfl) | (first | omega | assumption | (focus (simp; omega))))
  · (first | omega | (first | ((simp (disch := omega) only [↓app0, ↓appC, ↓updS, ↓updN, ↓hpS, ↓hpN]) <;> first | rfl | assumption) | assumption | rfl) | (first | omega | assumption | (focus (simp; omega))))
  · (first | omega | (first | ((simp (disch := omega) only [↓app0, ↓appC, ↓updS, ↓updN, ↓hpS, ↓hpN]) <;> first | rfl | assumption) | assumption | rfl) | (first | omega | assumption | (focus (simp; omega))))
  refine rmT rfl rfl rfl rfl rfl ?_
  refine rex rfl rfl rfl rfl rfl rfl ?_
  refine rexB rfl rfl rfl rfl rfl rfl ?_ (fun h => by cases h)
  intro h1_6
  refine raI rfl rfl rfl rfl rfl ?_
  refine raB rfl rfl rfl rfl rfl ?_
  refine rNil ?_
  refine qSeq ?_
  refine wSeq ?_
  refine wSeq ?_
  refine wRegion ?_
  refine rmB rfl rfl rfl rfl rfl ?_
  refine rnot (c := true) rfl rfl rfl rfl rfl ?_
  refine rNil ?_
  refine qSeq ?_
  refine wF rfl ?_
  refine wSkip ?_
  refine qSeq ?_
  refine wSeq ?_
  refine wRegion ?_
  refine rmP rfl rfl rfl rfl rfl ?_
  refine rnc (v := .ptr _ _ _) rfl rfl rfl rfl rfl rfl ?_
  refine rfa (off := 2) (s := 1) (r := false) rfl rfl rfl (Nat.succ_ne_zero _) rfl rfl rfl ?_
  (apply rlc (v := .view _ _ _) rfl rfl; (first | ((simp (disch := omega) only [↓app0, ↓appC, ↓updS, ↓updN, ↓hpS, ↓hpN]) <;> first | rfl | assumption) | assumption | rfl); rfl; rfl; rfl; rfl; rfl; rfl)
  refine rmI rfl rfl rfl rfl rfl ?_
  (apply rixv rfl rfl rfl rfl; (first | ((simp (disch := omega) only [↓app0, ↓appC, ↓updS, ↓updN, ↓hpS, ↓hpN]) <;> first | rfl | assumption) | assumption | rfl); rfl; (first | omega | assumption | (focus (simp; omega))); (first | omega | assumption | (focus (simp; omega))); rfl; rfl; rfl)
  refine raP rfl rfl rfl rfl rfl ?_
  refine rNil ?_
  refine qSeq ?_
  refine wSeq ?_
  refine wBlock ?_
  refine wSeq ?_
  refine wDraw [0, 1, 3, 7, 0, 16, 63, 127, 255, 511, 1023, 255, 2303, 8191, 16383, 32767, 65535] rfl (by decide +kernel) ?_
  refine dmP rfl rfl rfl rfl rfl ?_
  refine dnc (v := .ptr _ _ _) rfl rfl rfl rfl rfl rfl ?_
  refine dfa (off := 2) (s := 1) (r := false) rfl rfl rfl (Nat.succ_ne_zero _) rfl rfl rfl ?_
  (apply dlc (v := .int _ _) rfl rfl; (first | ((simp (disch := omega) only [↓app0, ↓appC, ↓updS, ↓updN, ↓hpS, ↓hpN]) <;> first | rfl | assumption) | assumption | rfl); rfl; rfl; rfl; rfl; rfl; rfl)
  refine dfa (off := 0) (s := 1) (r := false) rfl rfl rfl (Nat.succ_ne_zero _) rfl rfl rfl ?_
  (apply dlc (v := .int _ _) rfl rfl; (first | ((simp (disch := omega) only [↓app0, ↓appC, ↓updS, ↓updN, ↓hpS, ↓hpN]) <;> first | rfl | assumption) | assumption | rfl); rfl; rfl; rfl; rfl; rfl; rfl)
  refine deq rfl rfl rfl rfl rfl rfl (fun h => absurd h (hd2)) ?_
  intro h7_6
  refine dmB rfl rfl rfl rfl rfl ?_
  refine dmP rfl rfl rfl rfl rfl ?_
  refine dnc (v := .ptr _ _ _) rfl rfl rfl rfl rfl rfl ?_
  (apply dlr (vs := [.str _, .int _ _, .int _ _, .int _ _, _]) rfl rfl; (first | ((simp (disch := omega) only [↓app0, ↓appC, ↓updS, ↓updN, ↓hpS, ↓hpN]) <;> first | rfl | assumption) | assumption | rfl); rfl; rfl; (exact Nat.le_of_ble_eq_true rfl); rfl; rfl; rfl; rfl)
  refine dfa (off := 0) (s := 1) (r := false) rfl rfl rfl (Nat.succ_ne_zero _) rfl rfl rfl ?_
  (apply dlc (v := .int _ _) rfl rfl; (first | ((simp (disch := omega) only [↓app0, ↓appC, ↓updS, ↓updN, ↓hpS, ↓hpN]) <;> first | rfl | assumption) | assumption | rfl); rfl; rfl; rfl; rfl; rfl; rfl)
  refine dop (o66v l c (by omega) (wb := wb) ?_ ?_) rfl rfl rfl rfl rfl rfl ?_
  · (first | omega | (first | ((simp (disch := omega) only [↓app0, ↓appC, ↓updS, ↓updN, ↓hpS, ↓hpN]) <;> first | rfl | assumption) | assumption | rfl) | (first | omega | assumption | (focus (simp; omega))))
  · (first | omega | (first | ((simp (disch := omega) only [↓app0, ↓appC, ↓updS, ↓updN, ↓hpS, ↓hpN]) <;> first | rfl | assumption) | assumption | rfl) | (first | omega | assumption | (focus (simp; omega))))
  refine dge rfl rfl rfl rfl rfl rfl (fun h => absurd h (by show ¬ (wix c l.ws ≥ 0); omega)) ?_
  intro h7_14
  refine dpk (e := false) rfl rfl rfl rfl rfl rfl ?_
  refine daB rfl rfl rfl rfl rfl ?_
  refine dNilR 17 [0, 0, 0, 3, 1, 0, 1, 0, 0, 0, 0, 1, 0, 1, 0, 0, 0] [] rfl rfl (by decide +kernel) trivial ?_
  refine qSeq ?_
  refine wF rfl ?_
  refine wSeq ?_
  refine wRegion ?_
  refine rmP rfl rfl rfl rfl rfl ?_
  refine rnc (v := .ptr _ _ _) rfl rfl rfl rfl rfl rfl ?_
  refine rfa (off := 2) (s := 1) (r := false) rfl rfl rfl (Nat.succ_ne_zero _) rfl rfl rfl ?_
  (apply rlc (v := .int _ _) rfl rfl; (first | ((simp (disch := omega) only [↓app0, ↓appC, ↓updS, ↓updN, ↓hpS, ↓hpN]) <;> first | rfl | assumption) | assumption | rfl); rfl; rfl; rfl; rfl; rfl; rfl)
  refine req rfl rfl rfl rfl rfl rfl (fun h => absurd h (hd1)) ?_
  intro h9_4
  refine raB rfl rfl rfl rfl rfl ?_
  refine rNil ?_
  refine qSeq ?_
  refine wF rfl ?_
  refine wSeq ?_
  refine wRegion ?_
  refine rmP rfl rfl rfl rfl rfl ?_
  refine rnc (v := .ptr _ _ _) rfl rfl rfl rfl rfl rfl ?_
  refine rfa (off := 4) (s := 1) (r := false) rfl rfl rfl (Nat.succ_ne_zero _) rfl rfl rfl ?_
  (apply rlc (v := .view _ _ _) rfl rfl; (first | ((simp (disch := omega) only [↓app0, ↓appC, ↓updS, ↓updN, ↓hpS, ↓hpN]) <;> first | rfl | assumption) | assumption | rfl); rfl; rfl; rfl; rfl; rfl; rfl)
  refine rll rfl rfl rfl rfl rfl rfl ?_
  refine req rfl rfl rfl rfl rfl rfl (fun h => absurd h (by first | decide | (show ¬ ((l.ws.length : Int) = 4); omega))) ?_
  intro h12_5
  refine raB rfl rfl rfl rfl rfl ?_
  refine rNil ?_
  refine qSeq ?_
  refine wF rfl ?_
  refine wSkip ?_
  refine qBlock ?_
  refine qSeq ?_
  refine wSeq ?_
  refine wDraw [0, 0, 2, 6, 14, 0, 32, 0, 128, 480, 992, 2046, 4095, 8191, 16383] rfl (by decide +kernel) ?_
  refine dmP rfl rfl rfl rfl rfl ?_
  refine dmP rfl rfl rfl rfl rfl ?_
  refine dnc (v := .ptr _ _ _) rfl rfl rfl rfl rfl rfl ?_
  refine dfa (off := 4) (s := 1) (r := false) rfl rfl rfl (Nat.succ_ne_zero _) rfl rfl rfl ?_
  (apply dlc (v := .view _ _ _) rfl rfl; (first | ((simp (disch := omega) only [↓app0, ↓appC, ↓updS, ↓updN, ↓hpS, ↓hpN]) <;> first | rfl | assumption) | assumption | rfl); rfl; rfl; rfl; rfl; rfl; rfl)
  refine dfa (off := 0) (s := 1) (r := false) rfl rfl rfl (Nat.succ_ne_zero _) rfl rfl rfl ?_
  (apply dlc (v := .int _ _) rfl rfl; (first | ((simp (disch := omega) only [↓app0, ↓appC, ↓updS, ↓updN, ↓hpS, ↓hpN]) <;> first | rfl | assumption) | assumption | rfl); rfl; rfl; rfl; rfl; rfl; rfl)
  refine dfa (off := 3) (s := 1) (r := false) rfl rfl rfl (Nat.succ_ne_zero _) rfl rfl rfl ?_
  (apply dlc (v := .int _ _) rfl rfl; (first | ((simp (disch := omega) only [↓app0, ↓appC, ↓updS, ↓updN, ↓hpS, ↓hpN]) <;> first | rfl | assumption) | assumption | rfl); rfl; rfl; rfl; rfl; rfl; rfl)
  refine dbd (cs := [.int _ _, .int _ _]) rfl rfl rfl rfl rfl ?_
  refine dbs (es := [[.int _ _, .int _ _]]) rfl rfl rfl rfl (Nat.succ_ne_zero _) (Nat.le_of_ble_eq_true rfl) rfl rfl rfl rfl rfl ?_
  (apply dap (s' := 16) (es := [[.int _ _, .int _ _]]) rfl rfl; (first | ((simp (disch := omega) only [↓app0, ↓appC, ↓updS, ↓updN, ↓hpS, ↓hpN]) <;> first | rfl | assumption) | assumption | rfl); rfl; rfl; (first | rfl | omega | (show _ = (List.map wtV l.ws).length; rw [List.length_map]; omega)); rfl; rfl; exact (Nat.succ_ne_zero _); (first | rfl | (apply srcView rfl; (first | ((simp (disch := omega) only [↓app0, ↓appC, ↓updS, ↓updN, ↓hpS, ↓hpN]) <;> first | rfl | assumption) | assumption | rfl); (first | exact Nat.le_refl _ | omega); rfl)); (first | rfl | assumption | (focus (simp; done)) | (intro _ _; simp_all)); (first | omega | (focus (simp only [List.length_cons, List.length_nil]; omega)) | exact Nat.le_of_ble_eq_true rfl | ((show (_ + 1) * _ ≤ _); omega) | ((show _ + 1 ≤ _); omega)); (first | omega | (focus (simp only [List.length_cons, List.length_nil]; omega)) | exact Nat.le_of_ble_eq_true rfl | ((show (_ + 1) * _ ≤ _); omega) | ((show _ + 1 ≤ _); omega)); rfl; rfl; rfl)
  refine dnc (v := .ptr _ _ _) rfl rfl rfl rfl rfl rfl ?_
  refine dfa (off := 4) (s := 1) (r := false) rfl rfl rfl (Nat.succ_ne_zero _) rfl rfl rfl ?_
  (apply dst (u := .view _ _ _) rfl rfl rfl; (first | ((simp (disch := omega) only [↓app0, ↓appC, ↓updS, ↓updN, ↓hpS, ↓hpN]) <;> first | rfl | assumption) | assumption | rfl); rfl; rfl; rfl; rfl; rfl; (exact Nat.le_of_ble_eq_true rfl); rfl; rfl; rfl)
  refine dNilR 15 [3, 0, 0, 3, 3, 0, 1, 0, 1, 0, 1, 0, 0, 0, 0] [(4, 10)] rfl rfl (by decide +kernel) ?_ ?_
  · (simp [ClearL, ids]; try omega)
  refine qSeq ?_
  refine wSeq ?_
  refine wRegion ?_
  refine rmP rfl rfl rfl rfl rfl ?_
  refine rop (o68 l (.view (n + 6 + l.ws.length + 1) 0 (l.ws.length + 1)) 2 (lb := lb) ?_ ?_) rfl rfl rfl rfl rfl rfl ?_
  · (first | omega | (first | ((simp (disch := omega) only [↓app0, ↓appC, ↓updS, ↓updN, ↓hpS, ↓hpN]) <;> first | rfl | assumption) | assumption | rfl) | (first | omega | assumption | (focus (simp; omega))))
  · (first | omega | (first | ((simp (disch := omega) only [↓app0, ↓appC, ↓updS, ↓updN, ↓hpS, ↓hpN]) <;> first | rfl | assumption) | assumption | rfl) | (first | omega | assumption | (focus (simp; omega))))
  (apply rst (u := .agg [.int _ _, .int _ _, .int _ _, .int _ _]) rfl rfl rfl; (first | ((simp (disch := omega) only [↓app0, ↓appC, ↓updS, ↓updN, ↓hpS, ↓hpN]) <;> first | rfl | assumption) | assumption | rfl); rfl; rfl; rfl; rfl; rfl; (exact Nat.le_of_ble_eq_true rfl); rfl; rfl; rfl)
  refine rNil ?_
  refine qSeq ?_
  refine wRet ?_
  exact finO (resL_cons (resV_row rfl (by (first | ((simp (disch := omega) only [↓app0, ↓appC, ↓updS, ↓updN]) <;> first | rfl | assumption) | assumption | rfl)) rfl rfl (Nat.le_of_ble_eq_true rfl) rfl) resL_nil) rfl (leWr (by
    intro j hj
    simp only [List.map_cons, List.map_nil, List.mem_cons, List.not_mem_nil, or_false] at hj
    rcases hj with rfl | rfl | rfl <;> (simp (disch := omega) only [↓app0, ↓appC, ↓updS, ↓updN]) <;> first | rfl | (exact congrArg (fun z => some (Blk.mk z 2 93)) (by simp only [List.map_append]; rfl))) (fun j hj hn => by
    simp only [List.map_cons, List.map_nil, List.mem_cons, List.not_mem_nil, or_false, not_or] at hn
    simp (disch := omega) only [↓app0, ↓appC, ↓updS, ↓updN])) (by omega)

end Go.Proofs.Ytnkpjlpappmccaa
