import Derived.Test.YtnkpjlpappmccaaE2
namespace Go.Proofs.Ytnkpjlpappmccaa
open Go.V
set_option linter.unusedVariables false
set_option linter.unusedSimpArgs false
set_option maxRecDepth 20000
set_option maxHeartbeats 4000000


/-! Names of locks, compared. -/
def cb (a b : ByteArray) : Int := Lib.compareBytes a.data.toList b.data.toList
theorem hcmp (a b : ByteArray) (w : World) : (callFunc 82 #[.string a, .string b]).run En.P w = .ok (.value (.int .i64 (cb a b))) w := by
  show (callFunc 82 #[.string a, .string b]).run Try.prog w = _
  rw [run_callFunc_extern Try.func82 (by kernel_rfl) (by kernel_rfl) (by kernel_rfl) (e := Extern.BytealgCompare.compare) (by kernel_rfl), Lib.run_compareString]; rfl
theorem p71 (a b : ByteArray) : Pure En 71 [.one (.str a), .one (.str b)] [.one (.int .i64 (cb a b))] := by
  refine Pure.of_wp Try.func71 rfl (Nat.le_of_ble_eq_true rfl) ?_
  refine wSeq ?_
  refine wRegion ?_
  refine raI rfl rfl rfl rfl rfl ?_
  refine rNil ?_
  refine qSeq ?_
  refine wSeq ?_
  refine wRegion ?_
  refine rmS rfl rfl rfl rfl rfl ?_
  refine rmS rfl rfl rfl rfl rfl ?_
  refine rx2 (hcmp a b) rfl rfl rfl rfl rfl rfl rfl ?_
  refine raI rfl rfl rfl rfl rfl ?_
  refine rNil ?_
  refine qSeq ?_
  refine wRet ?_
  exact fin rfl rfl
theorem p50 (a b : ByteArray) : Pure En 50 [.one (.str a), .one (.str b)] [.one (.int .i64 (cb a b))] := by
  refine Pure.of_wp Try.func50 rfl (Nat.le_of_ble_eq_true rfl) ?_
  refine wSeq ?_
  refine wRegion ?_
  refine raI rfl rfl rfl rfl rfl ?_
  refine rNil ?_
  refine qSeq ?_
  refine wSeq ?_
  refine wRegion ?_
  refine rmS rfl rfl rfl rfl rfl ?_
  refine rmS rfl rfl rfl rfl rfl ?_
  refine rcl (p71 a b) rfl rfl rfl rfl rfl rfl ?_
  refine raI rfl rfl rfl rfl rfl ?_
  refine rNil ?_
  refine qSeq ?_
  refine wRet ?_
  exact fin rfl rfl
theorem cbL_self : ∀ l : List UInt8, Lib.compareBytes l l = 0 := by
  intro l
  induction l with
  | nil => rfl
  | cons a l ih => simp [Lib.compareBytes, ih]
theorem cb_self (a : ByteArray) : cb a a = 0 := cbL_self _
/-- A lock's cells in memory of the call's own; W: where its waiters are. -/
def Lk.V (l : Lk) (W : V) : List V := [.str l.nm, .int .i64 l.tk, .int .i64 l.hd, .int .i64 l.ex, W]
theorem o49 (l : Lk) (W : V) (hW : W.cell = true) (s : ByteArray) {h : Heap} {n : Nat} : V.Open En 49 [.agg (l.V W), .str s] h n (.int .i64 (cb l.nm s)) [] (n + 1) := by
  refine V.Open.of_wp Try.func49 rfl (Nat.le_of_ble_eq_true rfl) ?_
  refine wSeq ?_
  refine wRegion ?_
  (refine rbx (u := .agg (l.V W)) rfl rfl rfl ?_ rfl rfl rfl ?_; (show (W.cell && true) = true; rw [hW]; rfl))
  refine raI rfl rfl rfl rfl rfl ?_
  refine rNil ?_
  refine qSeq ?_
  refine wSeq ?_
  refine wRegion ?_
  refine rfa (off := 0) (s := 1) (r := false) rfl rfl rfl (Nat.succ_ne_zero _) rfl rfl rfl ?_
  (apply rlc (v := .str _) rfl rfl; (first | ((simp (disch := omega) only [↓app0, ↓appC, ↓updS, ↓updN, ↓hpS, ↓hpN]) <;> first | rfl | assumption) | assumption | rfl); rfl; rfl; rfl; rfl; rfl; rfl)
  refine rmS rfl rfl rfl rfl rfl ?_
  refine rcl (p50 _ _) rfl rfl rfl rfl rfl rfl ?_
  refine raI rfl rfl rfl rfl rfl ?_
  refine rNil ?_
  refine qSeq ?_
  refine wRet ?_
  exact finO rfl rfl (leWr (fun j hj => absurd hj List.not_mem_nil) (fun j hj hn => by first | rfl | (simp (disch := omega) only [↓app0, ↓appC, ↓updS, ↓updN]))) (Nat.le_refl _)
theorem o49s (l : Lk) (W : V) (hW : W.cell = true) {h : Heap} {n : Nat} : V.Open En 49 [.agg (l.V W), .str l.nm] h n (.int .i64 0) [] (n + 1) := by
  have := o49 l W hW l.nm (h := h) (n := n)
  rw [cb_self] at this; exact this

theorem o48v (l : Lk) (W : V) (hW : W.cell = true) {lb : Nat} {h : Heap} {n : Nat} (hl : lb < n) (k1 : h lb = some ⟨[l.V W], 5, 46⟩) : V.Open En 48 [.view lb 0 1, .str l.nm, .clo 49 []] h n (.tup [.int .i64 0, .bool true]) [] (n + 2) := by
  refine V.Open.of_wp Try.func48 rfl (Nat.le_of_ble_eq_true rfl) ?_
  refine wSeq ?_
  refine wRegion ?_
  refine raI rfl rfl rfl rfl rfl ?_
  refine raB rfl rfl rfl rfl rfl ?_
  refine rNil ?_
  refine qSeq ?_
  refine wSeq ?_
  refine wRegion ?_
  refine rmV rfl rfl rfl rfl rfl ?_
  refine rll rfl rfl rfl rfl rfl rfl ?_
  refine raI rfl rfl rfl rfl rfl ?_
  refine rNil ?_
  refine qSeq ?_
  refine wSeq ?_
  refine wRegion ?_
  refine rmI rfl rfl rfl rfl rfl ?_
  refine raI rfl rfl rfl rfl rfl ?_
  refine raI rfl rfl rfl rfl rfl ?_
  refine rNil ?_
  refine qSeq ?_
  refine wSeq ?_
  refine wBlock ?_
  refine wLoop ?_
  refine lStep ?_
  refine wSeq ?_
  refine wSeq ?_
  refine wRegion ?_
  refine rmI rfl rfl rfl rfl rfl ?_
  refine rmI rfl rfl rfl rfl rfl ?_
  refine rlt rfl rfl rfl rfl rfl rfl ?_ (fun h => absurd (by decide) h)
  intro h3_2
  refine rNil ?_
  refine qSeq ?_
  refine wT rfl ?_
  refine wSkip ?_
  refine qSeq ?_
  refine wBlock ?_
  refine wSeq ?_
  refine wRegion ?_
  refine rmI rfl rfl rfl rfl rfl ?_
  refine rmI rfl rfl rfl rfl rfl ?_
  refine raddF rfl rfl rfl ?_ ?_ rfl rfl rfl ?_
  · (first | omega | assumption | decide)
  · (first | omega | assumption | decide)
  refine rcv rfl rfl rfl rfl rfl rfl rfl ?_
  refine rshr rfl rfl rfl ?_ rfl rfl rfl ?_
  · (first | omega | assumption | decide)
  refine rcvF rfl rfl rfl rfl ?_ ?_ rfl rfl rfl ?_
  · (first | exact bt_ge _ _ | exact bt_le _ _ | omega | (first | omega | assumption | decide))
  · (first | exact bt_ge _ _ | exact bt_le _ _ | omega | (first | omega | assumption | decide))
  refine raI (k := .i64) (a := 0) rfl rfl rfl rfl rfl ?_
  refine rNil ?_
  refine qSeq ?_
  refine wSeq ?_
  refine wRegion ?_
  refine rmC rfl rfl rfl rfl rfl ?_
  refine rmV rfl rfl rfl rfl rfl ?_
  refine rmI rfl rfl rfl rfl rfl ?_
  (apply rixv rfl rfl rfl rfl; (first | ((simp (disch := omega) only [↓app0, ↓appC, ↓updS, ↓updN, ↓hpS, ↓hpN]) <;> first | rfl | assumption) | assumption | rfl); rfl; (first | omega | assumption | decide); (first | omega | assumption | decide); rfl; rfl; rfl)
  (apply rlr (vs := [.str _, .int _ _, .int _ _, .int _ _, _]) rfl rfl; (first | ((simp (disch := omega) only [↓app0, ↓appC, ↓updS, ↓updN, ↓hpS, ↓hpN]) <;> first | rfl | assumption) | assumption | rfl); rfl; rfl; (exact Nat.le_of_ble_eq_true rfl); rfl; rfl; rfl; rfl)
  refine rmS rfl rfl rfl rfl rfl ?_
  refine rop (o49s l W hW) rfl rfl rfl rfl rfl rfl ?_
  refine rlt rfl rfl rfl rfl rfl rfl (fun h => absurd h (by decide)) ?_
  intro h5_7
  refine rNil ?_
  refine qSeq ?_
  refine wF rfl ?_
  refine wRegion ?_
  refine rmI rfl rfl rfl rfl rfl ?_
  refine raI rfl rfl rfl rfl rfl ?_
  refine rNil ?_
  refine qBlock ?_
  refine qLoop ?_
  refine lStep ?_
  refine wSeq ?_
  refine wSeq ?_
  refine wRegion ?_
  refine rmI rfl rfl rfl rfl rfl ?_
  refine rmI rfl rfl rfl rfl rfl ?_
  refine rlt rfl rfl rfl rfl rfl rfl (fun h => absurd h (by decide)) ?_
  intro h3_2
  refine rNil ?_
  refine qSeq ?_
  refine wF rfl ?_
  refine wExit ?_
  refine qSeqX ?_
  refine qLoopX ?_
  refine qBlockX ?_
  refine qSeq ?_
  refine wSeq ?_
  refine wRegion ?_
  refine rmI rfl rfl rfl rfl rfl ?_
  refine rmI rfl rfl rfl rfl rfl ?_
  refine rmI rfl rfl rfl rfl rfl ?_
  refine rlt rfl rfl rfl rfl rfl rfl ?_ (fun h => absurd (by decide) h)
  intro h8_3
  refine rmB rfl rfl rfl rfl rfl ?_
  refine rmC rfl rfl rfl rfl rfl ?_
  refine rmV rfl rfl rfl rfl rfl ?_
  refine rmI rfl rfl rfl rfl rfl ?_
  (apply rixv rfl rfl rfl rfl; (first | ((simp (disch := omega) only [↓app0, ↓appC, ↓updS, ↓updN, ↓hpS, ↓hpN]) <;> first | rfl | assumption) | assumption | rfl); rfl; (first | omega | assumption | decide); (first | omega | assumption | decide); rfl; rfl; rfl)
  (apply rlr (vs := [.str _, .int _ _, .int _ _, .int _ _, _]) rfl rfl; (first | ((simp (disch := omega) only [↓app0, ↓appC, ↓updS, ↓updN, ↓hpS, ↓hpN]) <;> first | rfl | assumption) | assumption | rfl); rfl; rfl; (exact Nat.le_of_ble_eq_true rfl); rfl; rfl; rfl; rfl)
  refine rmS rfl rfl rfl rfl rfl ?_
  refine rop (o49s l W hW) rfl rfl rfl rfl rfl rfl ?_
  refine req rfl rfl rfl rfl rfl rfl ?_ (fun h => absurd (by decide) h)
  intro h8_12
  refine rpk (e := true) rfl rfl rfl rfl rfl rfl ?_
  refine raI rfl rfl rfl rfl rfl ?_
  refine raB rfl rfl rfl rfl rfl ?_
  refine rNil ?_
  refine qSeq ?_
  refine wRet ?_
  exact finO rfl rfl (leWr (fun j hj => absurd hj List.not_mem_nil) (fun j hj hn => by first | rfl | (simp (disch := omega) only [↓app0, ↓appC, ↓updS, ↓updN]))) (by omega)
theorem o48n (s : ByteArray) {h : Heap} {n : Nat} : V.Open En 48 [.nsl, .str s, .clo 49 []] h n (.tup [.int .i64 0, .bool false]) [] n := by
  refine V.Open.of_wp Try.func48 rfl (Nat.le_of_ble_eq_true rfl) ?_
  refine wSeq ?_
  refine wRegion ?_
  refine raI rfl rfl rfl rfl rfl ?_
  refine raB rfl rfl rfl rfl rfl ?_
  refine rNil ?_
  refine qSeq ?_
  refine wSeq ?_
  refine wRegion ?_
  refine rmN rfl rfl rfl rfl rfl ?_
  refine rll rfl rfl rfl rfl rfl rfl ?_
  refine raI rfl rfl rfl rfl rfl ?_
  refine rNil ?_
  refine qSeq ?_
  refine wSeq ?_
  refine wRegion ?_
  refine rmI rfl rfl rfl rfl rfl ?_
  refine raI rfl rfl rfl rfl rfl ?_
  refine raI rfl rfl rfl rfl rfl ?_
  refine rNil ?_
  refine qSeq ?_
  refine wSeq ?_
  refine wBlock ?_
  refine wLoop ?_
  refine lStep ?_
  refine wSeq ?_
  refine wSeq ?_
  refine wRegion ?_
  refine rmI rfl rfl rfl rfl rfl ?_
  refine rmI rfl rfl rfl rfl rfl ?_
  refine rlt rfl rfl rfl rfl rfl rfl (fun h => absurd h (by decide)) ?_
  intro h3_2
  refine rNil ?_
  refine qSeq ?_
  refine wF rfl ?_
  refine wExit ?_
  refine qSeqX ?_
  refine qLoopX ?_
  refine qBlockX ?_
  refine qSeq ?_
  refine wSeq ?_
  refine wRegion ?_
  refine rmI rfl rfl rfl rfl rfl ?_
  refine rmI rfl rfl rfl rfl rfl ?_
  refine rmI rfl rfl rfl rfl rfl ?_
  refine rlt rfl rfl rfl rfl rfl rfl (fun h => absurd h (by decide)) ?_
  intro h8_3
  refine rmB rfl rfl rfl rfl rfl ?_
  refine rSkip rfl rfl rfl ?_
  refine rSkip rfl rfl rfl ?_
  refine rSkip rfl rfl rfl ?_
  refine rSkip rfl rfl rfl ?_
  refine rSkip rfl rfl rfl ?_
  refine rSkip rfl rfl rfl ?_
  refine rSkip rfl rfl rfl ?_
  refine rSkip rfl rfl rfl ?_
  refine rpk (e := false) rfl rfl rfl rfl rfl rfl ?_
  refine raI rfl rfl rfl rfl rfl ?_
  refine raB rfl rfl rfl rfl rfl ?_
  refine rNil ?_
  refine qSeq ?_
  refine wRet ?_
  exact finO rfl rfl (fun _ _ _ e => e) (by omega)

theorem o24v (l : Lk) (W : V) (hW : W.cell = true) (tm nx : Int) (Ss : V) {lb : Nat} {id : Nat} {h : Heap} {n : Nat} (hid : id < n) (hh : h id = some ⟨[[.int .i64 tm, .int .i64 nx, .view lb 0 1, Ss]], 4, 38⟩) (hl : lb < n) (k1 : h lb = some ⟨[l.V W], 5, 46⟩) : V.Open En 24 [.ptr id 0 0, .str l.nm] h n (.tup [.int .i64 0, .bool true]) [] (n + 2) := by
  refine V.Open.of_wp Try.func24 rfl (Nat.le_of_ble_eq_true rfl) ?_
  refine wSeq ?_
  refine wRegion ?_
  refine raI rfl rfl rfl rfl rfl ?_
  refine raB rfl rfl rfl rfl rfl ?_
  refine rNil ?_
  refine qSeq ?_
  refine wSeq ?_
  refine wRegion ?_
  refine rmP rfl rfl rfl rfl rfl ?_
  refine rnc (v := .ptr _ _ _) rfl rfl rfl rfl rfl rfl ?_
  refine rfa (off := 2) (s := 1) (r := false) rfl rfl rfl (Nat.succ_ne_zero _) rfl rfl rfl ?_
  (apply rlc (v := .view _ _ _) rfl rfl; (first | ((simp (disch := omega) only [↓app0, ↓appC, ↓updS, ↓updN, ↓hpS, ↓hpN]) <;> first | rfl | assumption) | assumption | rfl); rfl; rfl; rfl; rfl; rfl; rfl)
  refine rmS rfl rfl rfl rfl rfl ?_
  refine rop (o48v l W hW hl k1) rfl rfl rfl rfl rfl rfl ?_
  refine rex rfl rfl rfl rfl rfl rfl ?_
  refine rex rfl rfl rfl rfl rfl rfl ?_
  refine raI rfl rfl rfl rfl rfl ?_
  refine raB rfl rfl rfl rfl rfl ?_
  refine rNil ?_
  refine qSeq ?_
  refine wRet ?_
  exact finO rfl rfl (fun _ _ _ e => e) (by omega)

theorem o24n (s : ByteArray) (tm nx : Int) (Ss : V) {id : Nat} {h : Heap} {n : Nat} (hid : id < n) (hh : h id = some ⟨[[.int .i64 tm, .int .i64 nx, .nsl, Ss]], 4, 38⟩) : V.Open En 24 [.ptr id 0 0, .str s] h n (.tup [.int .i64 0, .bool false]) [] (n + 2) := by
  refine V.Open.of_wp Try.func24 rfl (Nat.le_of_ble_eq_true rfl) ?_
  refine wSeq ?_
  refine wRegion ?_
  refine raI rfl rfl rfl rfl rfl ?_
  refine raB rfl rfl rfl rfl rfl ?_
  refine rNil ?_
  refine qSeq ?_
  refine wSeq ?_
  refine wRegion ?_
  refine rmP rfl rfl rfl rfl rfl ?_
  refine rnc (v := .ptr _ _ _) rfl rfl rfl rfl rfl rfl ?_
  refine rfa (off := 2) (s := 1) (r := false) rfl rfl rfl (Nat.succ_ne_zero _) rfl rfl rfl ?_
  (apply rlc (v := .nsl) rfl rfl; (first | ((simp (disch := omega) only [↓app0, ↓appC, ↓updS, ↓updN, ↓hpS, ↓hpN]) <;> first | rfl | assumption) | assumption | rfl); rfl; rfl; rfl; rfl; rfl; rfl)
  refine rmS rfl rfl rfl rfl rfl ?_
  refine rop (o48n s) rfl rfl rfl rfl rfl rfl ?_
  refine rex rfl rfl rfl rfl rfl rfl ?_
  refine rex rfl rfl rfl rfl rfl rfl ?_
  refine raI rfl rfl rfl rfl rfl ?_
  refine raB rfl rfl rfl rfl rfl ?_
  refine rNil ?_
  refine qSeq ?_
  refine wRet ?_
  exact finO rfl rfl (fun _ _ _ e => e) (by omega)

theorem o68 (l : Lk) (W : V) (kd : Int) {lb : Nat} {h : Heap} {n : Nat} (hl : lb < n) (k1 : h lb = some ⟨[l.V W], 5, 46⟩) : V.Open En 68 [.ptr lb 0 0, .int .i64 kd] h n (.agg [.int .i64 kd, .int .i64 l.tk, .int .i64 l.hd, .int .i64 l.ex]) [] (n + 1) := by
  unfold Lk.V at k1
  refine V.Open.of_wp Try.func68 rfl (Nat.le_of_ble_eq_true rfl) ?_
  refine wSeq ?_
  refine wRegion ?_
  refine ral rfl rfl rfl rfl rfl rfl ?_
  refine rNil ?_
  refine qSeq ?_
  refine wSeq ?_
  refine wDraw [0, 0, 2, 6, 14, 0, 32, 96, 224, 0, 512, 1536, 3584, 8191, 16383] rfl (by decide +kernel) ?_
  refine dmI rfl rfl rfl rfl rfl ?_
  refine dmP rfl rfl rfl rfl rfl ?_
  refine dnc (v := .ptr _ _ _) rfl rfl rfl rfl rfl rfl ?_
  refine dfa (off := 1) (s := 1) (r := false) rfl rfl rfl (Nat.succ_ne_zero _) rfl rfl rfl ?_
  (apply dlc (v := .int _ _) rfl rfl; (first | ((simp (disch := omega) only [↓app0, ↓appC, ↓updS, ↓updN, ↓hpS, ↓hpN]) <;> first | rfl | assumption) | assumption | rfl); rfl; rfl; rfl; rfl; rfl; rfl)
  refine dmP rfl rfl rfl rfl rfl ?_
  refine dnc (v := .ptr _ _ _) rfl rfl rfl rfl rfl rfl ?_
  refine dfa (off := 2) (s := 1) (r := false) rfl rfl rfl (Nat.succ_ne_zero _) rfl rfl rfl ?_
  (apply dlc (v := .int _ _) rfl rfl; (first | ((simp (disch := omega) only [↓app0, ↓appC, ↓updS, ↓updN, ↓hpS, ↓hpN]) <;> first | rfl | assumption) | assumption | rfl); rfl; rfl; rfl; rfl; rfl; rfl)
  refine dmP rfl rfl rfl rfl rfl ?_
  refine dnc (v := .ptr _ _ _) rfl rfl rfl rfl rfl rfl ?_
  refine dfa (off := 3) (s := 1) (r := false) rfl rfl rfl (Nat.succ_ne_zero _) rfl rfl rfl ?_
  (apply dlc (v := .int _ _) rfl rfl; (first | ((simp (disch := omega) only [↓app0, ↓appC, ↓updS, ↓updN, ↓hpS, ↓hpN]) <;> first | rfl | assumption) | assumption | rfl); rfl; rfl; rfl; rfl; rfl; rfl)
  refine dbd (cs := [.int _ _, .int _ _, .int _ _, .int _ _]) rfl rfl rfl rfl rfl ?_
  (apply dst (u := .agg [.int _ _, .int _ _, .int _ _, .int _ _]) rfl rfl rfl; (first | ((simp (disch := omega) only [↓app0, ↓appC, ↓updS, ↓updN, ↓hpS, ↓hpN]) <;> first | rfl | assumption) | assumption | rfl); rfl; rfl; rfl; rfl; rfl; (exact Nat.le_of_ble_eq_true rfl); rfl; rfl; rfl)
  refine dNilR 15 [3, 0, 1, 0, 0, 0, 1, 0, 0, 0, 1, 0, 0, 0, 0] [] rfl rfl (by decide +kernel) trivial ?_
  refine qSeq ?_
  refine wRet ?_
  exact finO (resL_cons (resV_row rfl (by ((simp (disch := omega) only [↓app0, ↓appC, ↓updS, ↓updN]) <;> first | rfl | assumption)) rfl rfl (Nat.le_of_ble_eq_true rfl) rfl) resL_nil) rfl (leWr (fun j hj => absurd hj List.not_mem_nil) (fun j hj hn => by first | rfl | (simp (disch := omega) only [↓app0, ↓appC, ↓updS, ↓updN]))) (Nat.le_refl _)
theorem o77 (l : Lk) (W : V) (tm nx c le : Int) (Sl Ss : V) (ht : 0 ≤ tm ∧ tm ≤ 1000000000) (hn : 0 ≤ nx ∧ nx ≤ 1000000) (hle : 0 ≤ le ∧ le ≤ 1000) {id lb : Nat} {h : Heap} {n : Nat} (hid : id < n) (hl : lb < n) (hne : lb ≠ id)
    (hh : h id = some ⟨[[.int .i64 tm, .int .i64 nx, Sl, Ss]], 4, 38⟩) (k1 : h lb = some ⟨[l.V W], 5, 46⟩) :
    V.Open En 77 [.ptr id 0 0, .ptr lb 0 0, .int .i64 c, .int .i64 le] h n (.tup []) [(lb, some ⟨[(Lk.mk l.nm nx c (tm + le) l.ws).V W], 5, 46⟩), (id, some ⟨[[.int .i64 tm, .int .i64 (nx + 1), Sl, Ss]], 4, 38⟩)] n := by
  unfold Lk.V at k1 ⊢
  refine V.Open.of_wp Try.func77 rfl (Nat.le_of_ble_eq_true rfl) ?_
  refine wSeq ?_
  refine wDraw [0, 0, 0, 0, 0, 16, 48, 112, 0, 256, 768, 1792, 0, 7936, 4089, 20473, 53241, 118779, 249851, 511995, 1048575, 2097151, 4194303] rfl (by decide +kernel) ?_
  refine dmP rfl rfl rfl rfl rfl ?_
  refine dmP rfl rfl rfl rfl rfl ?_
  refine dmP rfl rfl rfl rfl rfl ?_
  refine dmI rfl rfl rfl rfl rfl ?_
  refine dmP rfl rfl rfl rfl rfl ?_
  refine dnc (v := .ptr _ _ _) rfl rfl rfl rfl rfl rfl ?_
  refine dfa (off := 1) (s := 1) (r := false) rfl rfl rfl (Nat.succ_ne_zero _) rfl rfl rfl ?_
  (apply dlc (v := .int _ _) rfl rfl; (first | ((simp (disch := omega) only [↓app0, ↓appC, ↓updS, ↓updN, ↓hpS, ↓hpN]) <;> first | rfl | assumption) | assumption | rfl); rfl; rfl; rfl; rfl; rfl; rfl)
  refine dmP rfl rfl rfl rfl rfl ?_
  refine dnc (v := .ptr _ _ _) rfl rfl rfl rfl rfl rfl ?_
  refine dfa (off := 0) (s := 1) (r := false) rfl rfl rfl (Nat.succ_ne_zero _) rfl rfl rfl ?_
  (apply dlc (v := .int _ _) rfl rfl; (first | ((simp (disch := omega) only [↓app0, ↓appC, ↓updS, ↓updN, ↓hpS, ↓hpN]) <;> first | rfl | assumption) | assumption | rfl); rfl; rfl; rfl; rfl; rfl; rfl)
  refine dmI rfl rfl rfl rfl rfl ?_
  refine daddF rfl rfl rfl ?_ ?_ rfl rfl rfl ?_
  · (first | omega | assumption | (focus (simp; omega)))
  · (first | omega | assumption | (focus (simp; omega)))
  refine dnc (v := .ptr _ _ _) rfl rfl rfl rfl rfl rfl ?_
  refine dfa (off := 2) (s := 1) (r := false) rfl rfl rfl (Nat.succ_ne_zero _) rfl rfl rfl ?_
  (apply dst (u := .int _ _) rfl rfl rfl; (first | ((simp (disch := omega) only [↓app0, ↓appC, ↓updS, ↓updN, ↓hpS, ↓hpN]) <;> first | rfl | assumption) | assumption | rfl); rfl; rfl; rfl; rfl; rfl; (exact Nat.le_of_ble_eq_true rfl); rfl; rfl; rfl)
  refine dnc (v := .ptr _ _ _) rfl rfl rfl rfl rfl rfl ?_
  refine dfa (off := 1) (s := 1) (r := false) rfl rfl rfl (Nat.succ_ne_zero _) rfl rfl rfl ?_
  (apply dst (u := .int _ _) rfl rfl rfl; (first | ((simp (disch := omega) only [↓app0, ↓appC, ↓updS, ↓updN, ↓hpS, ↓hpN]) <;> first | rfl | assumption) | assumption | rfl); rfl; rfl; rfl; rfl; rfl; (exact Nat.le_of_ble_eq_true rfl); rfl; rfl; rfl)
  refine dnc (v := .ptr _ _ _) rfl rfl rfl rfl rfl rfl ?_
  refine dfa (off := 3) (s := 1) (r := false) rfl rfl rfl (Nat.succ_ne_zero _) rfl rfl rfl ?_
  (apply dst (u := .int _ _) rfl rfl rfl; (first | ((simp (disch := omega) only [↓app0, ↓appC, ↓updS, ↓updN, ↓hpS, ↓hpN]) <;> first | rfl | assumption) | assumption | rfl); rfl; rfl; rfl; rfl; rfl; (exact Nat.le_of_ble_eq_true rfl); rfl; rfl; rfl)
  refine dNilR 23 [3, 0, 0, 3, 0, 0, 3, 0, 0, 0, 0, 1, 0, 0, 0, 1, 0, 0, 0, 0, 0, 0, 0] [] rfl rfl (by decide +kernel) trivial ?_
  refine qSeq ?_
  refine wRegion ?_
  refine rmP rfl rfl rfl rfl rfl ?_
  refine rnc (v := .ptr _ _ _) rfl rfl rfl rfl rfl rfl ?_
  refine rfa (off := 1) (s := 1) (r := false) rfl rfl rfl (Nat.succ_ne_zero _) rfl rfl rfl ?_
  (apply rlc (v := .int _ _) rfl rfl; (first | ((simp (disch := omega) only [↓app0, ↓appC, ↓updS, ↓updN, ↓hpS, ↓hpN]) <;> first | rfl | assumption) | assumption | rfl); rfl; rfl; rfl; rfl; rfl; rfl)
  refine raddF rfl rfl rfl ?_ ?_ rfl rfl rfl ?_
  · (first | omega | assumption | (focus (simp; omega)))
  · (first | omega | assumption | (focus (simp; omega)))
  refine rnc (v := .ptr _ _ _) rfl rfl rfl rfl rfl rfl ?_
  refine rfa (off := 1) (s := 1) (r := false) rfl rfl rfl (Nat.succ_ne_zero _) rfl rfl rfl ?_
  (apply rst (u := .int _ _) rfl rfl rfl; (first | ((simp (disch := omega) only [↓app0, ↓appC, ↓updS, ↓updN, ↓hpS, ↓hpN]) <;> first | rfl | assumption) | assumption | rfl); rfl; rfl; rfl; rfl; rfl; (exact Nat.le_of_ble_eq_true rfl); rfl; rfl; rfl)
  refine rNil ?_
  exact finO rfl rfl (leWr (by
    intro j hj
    simp only [List.map_cons, List.map_nil, List.mem_cons, List.not_mem_nil, or_false] at hj
    rcases hj with rfl | rfl <;> (simp (disch := omega) only [↓app0, ↓appC, ↓updS, ↓updN]) <;> first | rfl | (fail)) (fun j hj hn => by
    simp only [List.map_cons, List.map_nil, List.mem_cons, List.not_mem_nil, or_false, not_or] at hn
    simp (disch := omega) only [↓app0, ↓appC, ↓updS, ↓updN])) (Nat.le_refl _)
theorem p41 (kd : Int) : Pure En 41 [.one (.int .i64 kd)] [.agg [.int .i64 kd, .int .i64 0, .int .i64 (-1), .int .i64 0]] := by
  refine Pure.of_wp Try.func41 rfl (Nat.le_of_ble_eq_true rfl) ?_
  refine wSeq ?_
  refine wRegion ?_
  refine ral rfl rfl rfl rfl rfl rfl ?_
  refine rNil ?_
  refine qSeq ?_
  refine wSeq ?_
  refine wRegion ?_
  refine rmI rfl rfl rfl rfl rfl ?_
  refine rbd (cs := [.int _ _, .int _ _, .int _ _, .int _ _]) rfl rfl rfl rfl rfl ?_
  refine rst (u := .agg [.int _ _, .int _ _, .int _ _, .int _ _]) rfl rfl rfl rfl rfl rfl rfl rfl rfl (Nat.le_of_ble_eq_true rfl) rfl rfl rfl ?_
  refine rNil ?_
  refine qSeq ?_
  refine wRet ?_
  exact fin rfl rfl

end Go.Proofs.Ytnkpjlpappmccaa
