import Derived.Test.YtknnniaoboaghaaA1
namespace Go.Proofs.Ytknnniaoboaghaa
open Go.V
set_option linter.unusedVariables false
set_option linter.unusedSimpArgs false
set_option maxRecDepth 20000
set_option maxHeartbeats 4000000

/-! Names compared; a lock found. -/
def strT (s : ByteArray) : List T := [.str s]
theorem s86 (s : ByteArray) : Pure En 86 [.one (.str s)] [.one (.bool (decide (s.size > 65536)))] := by
  refine Pure.of_wp Try.func86 rfl (Nat.le_of_ble_eq_true rfl) ?_
  refine wSeq ?_
  refine wRegion ?_
  refine raB rfl rfl rfl rfl rfl ?_
  refine rNil ?_
  refine qSeq ?_
  refine wSeq ?_
  refine wRegion ?_
  refine rmS rfl rfl rfl rfl rfl ?_
  refine rls rfl rfl rfl rfl rfl rfl ?_
  refine rgt rfl rfl rfl rfl rfl rfl ?_ ?_ <;> intro h1_2
  · refine raB rfl rfl rfl rfl rfl ?_
    refine rNil ?_
    refine qSeq ?_
    refine wRet ?_
    first | exact finT rfl (by omega) | exact finF rfl (by omega)
  · refine raB rfl rfl rfl rfl rfl ?_
    refine rNil ?_
    refine qSeq ?_
    refine wRet ?_
    first | exact finT rfl (by omega) | exact finF rfl (by omega)
theorem o122 (fr nn : Bool) (L : List ByteArray) (hL : L.length ≤ 1048576) {h : Heap} {n : Nat} : ∃ r : Int, (0 ≤ r ↔ ∃ s ∈ L, s.size > 65536) ∧ V.Open En 122 [.sl fr nn (L.map strT), .clo 86 []] h n (.int .i64 r) [] n := by
  have hl : (L.map strT).length = L.length := List.length_map ..
  refine V.Open.of_wpX (v := fun r => .int .i64 r) (wr := fun _ => []) (m := fun _ => n) Try.func122 rfl (Nat.le_of_ble_eq_true rfl) ?_
  refine wSeq ?_
  refine wRegion ?_
  refine raI rfl rfl rfl rfl rfl ?_
  refine rNil ?_
  refine qSeq ?_
  refine wSeq ?_
  refine wSeq ?_
  refine wRegion ?_
  refine rmL rfl rfl rfl rfl rfl ?_
  refine rll rfl rfl rfl rfl rfl rfl ?_
  refine rmI rfl rfl rfl rfl rfl ?_
  refine rNil ?_
  refine qSeq ?_
  refine wBlock ?_
  refine wLoop ?_
  refine loopGo (fun (i : Nat) => [.sl fr nn (L.map strT), .clo 86 [], .unk, .unk, .unk, .unk, .unk, .int .i64 (L.map strT).length, .int .i64 i]) (fun (i : Nat) => h) (fun (i : Nat) => n) (fun (i : Nat) => i ≤ L.length ∧ ∀ j, j < i → ¬ (L.getD j ⟨#[]⟩).size > 65536) (fun (i : Nat) => L.length - i) 0 ?_ ?_ ?_ ?_ ?_
  · exact ⟨Nat.zero_le _, all0⟩
  · (repeat first | exact LE.nil _ | refine LE.unk _ _ ?_ | refine LE.eq _ _ _ rfl ?_)
  · exact LessH.refl _
  · exact Nat.le_refl _
  intro i hI ih
  refine lStep ?_
  refine wSeq ?_
  refine wRegion ?_
  refine rlt rfl rfl rfl rfl rfl rfl ?_ ?_ <;> intro h2_0
  · refine rNil ?_
    refine qSeq ?_
    refine wSeq ?_
    refine wT rfl ?_
    refine wSkip ?_
    refine qSeq ?_
    refine wSeq ?_
    refine wBlock ?_
    refine wSeq ?_
    refine wRegion ?_
    refine rmI rfl rfl rfl rfl rfl ?_
    refine raI rfl rfl rfl rfl rfl ?_
    refine rNil ?_
    refine qSeq ?_
    refine wSeq ?_
    refine wRegion ?_
    refine rmC rfl rfl rfl rfl rfl ?_
    refine rmL rfl rfl rfl rfl rfl ?_
    refine rmI rfl rfl rfl rfl rfl ?_
    (apply rixl rfl rfl rfl rfl; (first | omega | assumption | (focus (simp; omega))); (first | rfl | assumption | (exact getMap strT ⟨#[]⟩ (by omega))); rfl; rfl; rfl; rfl)
    refine rlic (v := .str _) rfl rfl rfl rfl rfl rfl rfl rfl ?_
    refine rclP (s86 _) rfl rfl rfl rfl rfl rfl ?_ ?_ <;> intro h4_5
    · refine rNil ?_
      refine qSeq ?_
      refine wT rfl ?_
      refine wSeq ?_
      refine wRegion ?_
      refine rmI rfl rfl rfl rfl rfl ?_
      refine raI rfl rfl rfl rfl rfl ?_
      refine rNil ?_
      refine qSeq ?_
      refine wRet ?_
      refine qBlockR ?_
      refine qSeqR ?_
      refine qLoopR ?_
      refine qBlockR ?_
      refine qSeqR ?_
      exact ⟨i, ⟨fun _ => ⟨L.getD i ⟨#[]⟩, by rw [List.getD_eq_getElem?_getD, List.getElem?_eq_getElem (show i < L.length by omega)]; exact List.getElem_mem _, h4_5⟩, fun _ => by omega⟩, finO rfl rfl (fun _ _ _ e => e) (Nat.le_refl _)⟩
    · refine rNil ?_
      refine qSeq ?_
      refine wF rfl ?_
      refine wSkip ?_
      refine qBlock ?_
      refine qSeq ?_
      refine wRegion ?_
      refine raddF rfl rfl rfl ?_ ?_ rfl rfl rfl ?_
      · (first | omega | assumption | (focus (simp; omega)))
      · (first | omega | assumption | (focus (simp; omega)))
      refine rmI rfl rfl rfl rfl rfl ?_
      refine rNil ?_
      refine qLoop ?_
      exact wlH (ih (i + 1) ⟨by omega, allS hI.2 h4_5⟩ (by omega)) (by (repeat first | exact LE.nil _ | refine LE.unk _ _ ?_ | refine LE.eq _ _ _ rfl ?_)) (LessH.refl _) (Nat.le_refl _)
  · refine rNil ?_
    refine qSeq ?_
    refine wSeq ?_
    refine wF rfl ?_
    refine wExit ?_
    refine qSeqX ?_
    refine qLoopX ?_
    refine qBlockX ?_
    refine qSeq ?_
    refine wSeq ?_
    refine wRegion ?_
    refine raI rfl rfl rfl rfl rfl ?_
    refine rNil ?_
    refine qSeq ?_
    refine wRet ?_
    exact ⟨-1, ⟨fun h => absurd h (by decide), fun ⟨s, h1, h2⟩ => by
      obtain ⟨j, hj, rfl⟩ := List.getElem_of_mem h1
      have := hI.2 j (by omega)
      rw [List.getD_eq_getElem?_getD, List.getElem?_eq_getElem hj] at this
      exact absurd h2 this⟩, finO rfl rfl (fun _ _ _ e => e) (Nat.le_refl _)⟩
theorem o85 (fr nn : Bool) (L : List ByteArray) (hL : L.length ≤ 1048576) {h : Heap} {n : Nat} : V.Open En 85 [.sl fr nn (L.map strT), .clo 86 []] h n (.bool (decide (∃ s ∈ L, s.size > 65536))) [] n := by
  refine V.Open.of_wp Try.func85 rfl (Nat.le_of_ble_eq_true rfl) ?_
  refine wSeq ?_
  refine wRegion ?_
  refine raB rfl rfl rfl rfl rfl ?_
  refine rNil ?_
  refine qSeq ?_
  refine wSeq ?_
  refine wRegion ?_
  refine rmL rfl rfl rfl rfl rfl ?_
  refine rmC rfl rfl rfl rfl rfl ?_
  refine ropX (o122 fr nn L hL) rfl rfl rfl rfl rfl rfl ?_
  rintro r h1_2
  try dsimp only at h1_2
  refine rge rfl rfl rfl rfl rfl rfl ?_ ?_ <;> intro h1_3
  · refine raB rfl rfl rfl rfl rfl ?_
    refine rNil ?_
    refine qSeq ?_
    refine wRet ?_
    first
      | (rw [decide_eq_true (h1_2.1 h1_3)]; exact finO rfl rfl (fun _ _ _ e => e) (Nat.le_refl _))
      | (rw [decide_eq_false (fun e => h1_3 (h1_2.2 e))]; exact finO rfl rfl (fun _ _ _ e => e) (Nat.le_refl _))
  · refine raB rfl rfl rfl rfl rfl ?_
    refine rNil ?_
    refine qSeq ?_
    refine wRet ?_
    first
      | (rw [decide_eq_true (h1_2.1 h1_3)]; exact finO rfl rfl (fun _ _ _ e => e) (Nat.le_refl _))
      | (rw [decide_eq_false (fun e => h1_3 (h1_2.2 e))]; exact finO rfl rfl (fun _ _ _ e => e) (Nat.le_refl _))
theorem s47 (s : ByteArray) : Pure En 47 [.one (.sl true [[.str s]])] [.one (.bool (decide (s.size > 65536)))] := by
  refine Pure.of_wp Try.func47 rfl (Nat.le_of_ble_eq_true rfl) ?_
  refine wSeq ?_
  refine wRegion ?_
  refine raB rfl rfl rfl rfl rfl ?_
  refine rNil ?_
  refine qSeq ?_
  refine wSeq ?_
  refine wRegion ?_
  refine rmL rfl rfl rfl rfl rfl ?_
  refine ropB (o85 false true [s] (Nat.le_of_ble_eq_true rfl)) rfl rfl rfl rfl rfl rfl ?_ ?_
  all_goals intro h1_1
  · refine raB rfl rfl rfl rfl rfl ?_
    refine rNil ?_
    refine qSeq ?_
    refine wRet ?_
    first
      | exact finT rfl (by have := of_decide_eq_true h1_1; simpa using this)
      | exact finF rfl (by have := of_decide_eq_false h1_1; simpa using this)
  · refine raB rfl rfl rfl rfl rfl ?_
    refine rNil ?_
    refine qSeq ?_
    refine wRet ?_
    first
      | exact finT rfl (by have := of_decide_eq_true h1_1; simpa using this)
      | exact finF rfl (by have := of_decide_eq_false h1_1; simpa using this)


/-! Names of locks, compared. -/
def cb (a b : ByteArray) : Int := Lib.compareBytes a.data.toList b.data.toList
theorem hcmp (a b : ByteArray) (w : World) : (callFunc 144 #[.string a, .string b]).run En.P w = .ok (.value (.int .i64 (cb a b))) w := by
  show (callFunc 144 #[.string a, .string b]).run Try.prog w = _
  rw [run_callFunc_extern Try.func144 (by kernel_rfl) (by kernel_rfl) (by kernel_rfl) (e := Extern.BytealgCompare.compare) (by kernel_rfl), Lib.run_compareString]; rfl
theorem s123 (a b : ByteArray) : Pure En 123 [.one (.str a), .one (.str b)] [.one (.int .i64 (cb a b))] := by
  refine Pure.of_wp Try.func123 rfl (Nat.le_of_ble_eq_true rfl) ?_
  refine wSeq ?_
  refine wRegion ?_
  refine raI rfl rfl rfl rfl rfl ?_
  refine rNil ?_
  refine qSeq ?_
  refine wSeq ?_
  refine wRegion ?_
  refine rmS rfl rfl rfl rfl rfl ?_
  refine rmS rfl rfl rfl rfl rfl ?_
  refine rx2 (hcmp a b) rfl rfl rfl rfl rfl rfl rfl ?_
  refine raI rfl rfl rfl rfl rfl ?_
  refine rNil ?_
  refine qSeq ?_
  refine wRet ?_
  exact fin rfl rfl
theorem s89 (a b : ByteArray) : Pure En 89 [.one (.str a), .one (.str b)] [.one (.int .i64 (cb a b))] := by
  refine Pure.of_wp Try.func89 rfl (Nat.le_of_ble_eq_true rfl) ?_
  refine wSeq ?_
  refine wRegion ?_
  refine raI rfl rfl rfl rfl rfl ?_
  refine rNil ?_
  refine qSeq ?_
  refine wSeq ?_
  refine wRegion ?_
  refine rmS rfl rfl rfl rfl rfl ?_
  refine rmS rfl rfl rfl rfl rfl ?_
  refine rcl (s123 a b) rfl rfl rfl rfl rfl rfl ?_
  refine raI rfl rfl rfl rfl rfl ?_
  refine rNil ?_
  refine qSeq ?_
  refine wRet ?_
  exact fin rfl rfl
/-- A lock's cells; W: where its waiters are. -/
def Lk.V (l : Lk) (W : V) : List V := [.str l.nm, .int .i64 l.tk, .int .i64 l.hd, .int .i64 l.ex, W]
theorem o88 (l : Lk) (W : V) (hW : W.cell = true) (s : ByteArray) {h : Heap} {n : Nat} : V.Open En 88 [.agg (l.V W), .str s] h n (.int .i64 (cb l.nm s)) [] (n + 1) := by
  refine V.Open.of_wp Try.func88 rfl (Nat.le_of_ble_eq_true rfl) ?_
  refine wSeq ?_
  refine wRegion ?_
  (refine rbx (u := .agg (l.V W)) rfl rfl rfl ?_ rfl rfl rfl ?_; (show (W.cell && true) = true; rw [hW]; rfl))
  refine raI rfl rfl rfl rfl rfl ?_
  refine rNil ?_
  refine qSeq ?_
  refine wSeq ?_
  refine wRegion ?_
  refine rfa (off := 0) (s := 1) (r := false) rfl rfl rfl (Nat.succ_ne_zero _) rfl rfl rfl ?_
  (apply rlc (v := .str _) rfl rfl; (first | ((simp (disch := omega) only [↓app0, ↓appC, ↓updS, ↓updN, ↓hpS, ↓hpN]) <;> first | rfl | assumption) | assumption | rfl); rfl; rfl; rfl; rfl; rfl; rfl)
  refine rmS rfl rfl rfl rfl rfl ?_
  refine rcl (s89 _ _) rfl rfl rfl rfl rfl rfl ?_
  refine raI rfl rfl rfl rfl rfl ?_
  refine rNil ?_
  refine qSeq ?_
  refine wRet ?_
  exact finO rfl rfl (leWr (fun j hj => absurd hj List.not_mem_nil) (fun j hj hn => by first | rfl | (simp (disch := omega) only [↓app0, ↓appC, ↓updS, ↓updN]))) (Nat.le_refl _)
theorem cmpL : ∀ a b : List UInt8, (Lib.compareBytes a b < 0 ↔ a < b) ∧ (Lib.compareBytes a b = 0 ↔ a = b)
  | [], [] => by simp [Lib.compareBytes]
  | [], _ :: _ => by simp [Lib.compareBytes]
  | _ :: _, [] => by simp [Lib.compareBytes]
  | a :: x, b :: y => by
    have ih := cmpL x y
    unfold Lib.compareBytes
    rw [List.cons_lt_cons_iff, List.cons.injEq]
    by_cases h1 : a < b
    · rw [if_pos h1]
      refine ⟨⟨fun _ => .inl h1, fun _ => by decide⟩, fun e => absurd e (by decide), fun e => ?_⟩
      rw [e.1] at h1; exact absurd h1 (UInt8.lt_irrefl _)
    · rw [if_neg h1]
      by_cases h2 : b < a
      · rw [if_pos h2]
        refine ⟨⟨fun e => absurd e (by decide), fun e => ?_⟩, fun e => absurd e (by decide), fun e => ?_⟩
        · rcases e with e | e
          · exact absurd e h1
          · rw [e.1] at h2; exact absurd h2 (UInt8.lt_irrefl _)
        · rw [e.1] at h2; exact absurd h2 (UInt8.lt_irrefl _)
      · rw [if_neg h2]
        have e : a = b := UInt8.le_antisymm (UInt8.not_lt.1 h2) (UInt8.not_lt.1 h1)
        subst e
        simp [h1, ih.1, ih.2]
theorem bytesLess_eq : ∀ (x y : List UInt8), Op.bytesLess x y = decide (x < y)
  | [], [] => by simp [Op.bytesLess]
  | _ :: _, [] => by simp [Op.bytesLess]
  | [], _ :: _ => by simp [Op.bytesLess]
  | a :: x, b :: y => by
    rw [Op.bytesLess, bytesLess_eq x y]
    simp only [List.cons_lt_cons_iff]
    by_cases h1 : a < b <;> by_cases h2 : a = b <;> by_cases h3 : x < y <;> simp [h1, h2, h3]
theorem ltS_iff (a b : ByteArray) : ltS a b ↔ a.data.toList < b.data.toList := by
  unfold ltS
  rw [Lib.toList_data, Lib.toList_data, bytesLess_eq, decide_eq_true_iff]
instance (a b : ByteArray) : Decidable (ltS a b) := by unfold ltS; infer_instance
theorem cb_lt {a b : ByteArray} : cb a b < 0 ↔ ltS a b := by rw [ltS_iff]; exact (cmpL _ _).1
theorem cb_eq {a b : ByteArray} : cb a b = 0 ↔ a = b := by
  unfold cb
  rw [(cmpL _ _).2]
  constructor
  · intro e; cases a; cases b; simp at e ⊢; cases ‹Array UInt8›; cases ‹Array UInt8›; simpa using e
  · intro e; rw [e]
theorem ltS_irr (a : ByteArray) : ¬ ltS a a := by rw [ltS_iff]; exact List.lt_irrefl _
theorem ltS_trans {a b c : ByteArray} : ltS a b → ltS b c → ltS a c := by
  rw [ltS_iff, ltS_iff, ltS_iff]; exact fun h1 h2 => List.lt_trans h1 h2
def lnm (L : List Lk) (i : Nat) : ByteArray := (L.getD i Lk0).nm
def Srt (L : List Lk) : Prop := ∀ i, 0 < i → i < L.length → ltS (lnm L (i - 1)) (lnm L i)
theorem Srt.lt {L : List Lk} (hs : Srt L) {i : Nat} : ∀ {j : Nat}, i < j → j < L.length → ltS (lnm L i) (lnm L j)
  | 0, h, _ => absurd h (Nat.not_lt_zero _)
  | j + 1, h, h1 => by
    have e := hs (j + 1) (Nat.succ_pos _) h1
    rw [Nat.add_sub_cancel] at e
    by_cases e2 : i = j
    · subst e2; exact e
    · exact ltS_trans (hs.lt (j := j) (by omega) (by omega)) e
theorem Tb.OK.srt {t : Tb} (h : t.OK) : Srt t.lk := fun i h0 h1 => (h.2.2.2.2.1 i h1).2 h0
/-- The place of the first name that is not below s. -/
def pos (s : ByteArray) : List Lk → Nat
  | [] => 0
  | l :: r => if ltS l.nm s then pos s r + 1 else 0
theorem pos_eq {s : ByteArray} : ∀ {L : List Lk} {p : Nat}, p ≤ L.length → (∀ j, j < p → ltS (lnm L j) s) → (p < L.length → ¬ ltS (lnm L p) s) → pos s L = p
  | [], p, h, _, _ => by simp at h; subst h; rfl
  | l :: r, 0, _, _, h => by unfold pos; rw [if_neg (by simpa [lnm] using h (by simp))]
  | l :: r, p + 1, h, h1, h2 => by
    unfold pos
    rw [if_pos (by simpa [lnm] using h1 0 (Nat.succ_pos _)), pos_eq (L := r) (p := p) (by simpa using h) (fun j hj => by simpa [lnm] using h1 (j + 1) (by omega)) (fun h3 => by simpa [lnm] using h2 (by simpa using h3))]
def hit (s : ByteArray) (L : List Lk) : Prop := pos s L < L.length ∧ lnm L (pos s L) = s
instance (s : ByteArray) (L : List Lk) : Decidable (hit s L) := by unfold hit; infer_instance
theorem hit_of {s : ByteArray} {L : List Lk} (hs : Srt L) {i : Nat} (h : i < L.length) (e : lnm L i = s) : pos s L = i ∧ hit s L := by
  have : pos s L = i := pos_eq (Nat.le_of_lt h) (fun j hj => e ▸ hs.lt hj h) (fun _ => by rw [e]; exact ltS_irr s)
  exact ⟨this, by rw [this]; exact h, by rw [this]; exact e⟩
theorem hit_no {s : ByteArray} {L : List Lk} (h : ∀ j, j < L.length → ¬ lnm L j = s) : ¬ hit s L := fun e => h _ e.1 e.2
def fix (s : ByteArray) (L : List Lk) : Int := if hit s L then pos s L else -1
theorem s43 (t : Tb) (b n1 n2 : Bool) (s : ByteArray) (hs : Srt t.lk) (hL : t.lk.length ≤ 1048576) : Pure En 43 [.agg (t.T b n1 n2), .one (.str s)] [.one (.int .i64 (fix s t.lk))] := by
  have hl : (t.lk.map (Lk.T b)).length = t.lk.length := List.length_map ..
  refine Pure.of_wp Try.func43 rfl (Nat.le_of_ble_eq_true rfl) ?_
  refine wSeq ?_
  refine wRegion ?_
  refine rbx (u := .agg [.int _ _, .int _ _, _, _]) rfl rfl rfl rfl rfl rfl rfl ?_
  refine raI rfl rfl rfl rfl rfl ?_
  refine rNil ?_
  refine qSeq ?_
  refine wSeq ?_
  refine wSeq ?_
  refine wRegion ?_
  refine raI rfl rfl rfl rfl rfl ?_
  refine rNil ?_
  refine qSeq ?_
  refine wBlock ?_
  refine wLoop ?_
  refine loopGo (fun (i : Nat) => [.unk, .str s, .ptr 0 0 0, .unk, .unk, .int .i64 i]) (fun (i : Nat) => hp [(0, ⟨[[.int .i64 t.tm, .int .i64 t.nx, .sl false n1 (t.lk.map (Lk.T b)), .sl false n2 (t.sn.map Sn.T)]], 4, 35⟩)]) (fun (i : Nat) => 1) (fun (i : Nat) => i ≤ t.lk.length ∧ ∀ j, j < i → ¬ lnm t.lk j = s) (fun (i : Nat) => t.lk.length - i) 0 ?_ ?_ ?_ ?_ ?_
  · exact ⟨Nat.zero_le _, all0⟩
  · (repeat first | exact LE.nil _ | refine LE.unk _ _ ?_ | refine LE.eq _ _ _ rfl ?_)
  · (repeat first | exact lessH0 | (refine lessHc ?_ ?_; (first | (first | ((simp (disch := omega) only [↓app0, ↓appC, ↓updS, ↓updN, ↓hpS, ↓hpN]) <;> first | rfl | assumption) | assumption | rfl) | fail)))
  · exact Nat.le_refl _
  intro i hI ih
  refine lStep ?_
  refine wSeq ?_
  refine wSeq ?_
  refine wRegion ?_
  refine rmI rfl rfl rfl rfl rfl ?_
  refine rfa (off := 2) (s := 1) (r := false) rfl rfl rfl (Nat.succ_ne_zero _) rfl rfl rfl ?_
  (apply rlc (v := .sl _ _ _) rfl rfl; (first | ((simp (disch := omega) only [↓app0, ↓appC, ↓updS, ↓updN, ↓hpS, ↓hpN]) <;> first | rfl | assumption) | assumption | rfl); rfl; rfl; rfl; rfl; rfl; rfl)
  refine rll rfl rfl rfl rfl rfl rfl ?_
  refine rlt rfl rfl rfl rfl rfl rfl ?_ ?_ <;> intro h2_4
  · refine rNil ?_
    refine qSeq ?_
    refine wT rfl ?_
    refine wSkip ?_
    refine qSeq ?_
    refine wSeq ?_
    refine wBlock ?_
    refine wSeq ?_
    refine wRegion ?_
    refine rfa (off := 2) (s := 1) (r := false) rfl rfl rfl (Nat.succ_ne_zero _) rfl rfl rfl ?_
    (apply rlc (v := .sl _ _ _) rfl rfl; (first | ((simp (disch := omega) only [↓app0, ↓appC, ↓updS, ↓updN, ↓hpS, ↓hpN]) <;> first | rfl | assumption) | assumption | rfl); rfl; rfl; rfl; rfl; rfl; rfl)
    refine rmI rfl rfl rfl rfl rfl ?_
    (apply rixl rfl rfl rfl rfl; (first | omega | assumption | (focus (simp; omega))); (first | rfl | assumption | (exact getMap (Lk.T b) Lk0 (k := i) (by omega))); rfl; rfl; rfl; rfl)
    refine rfai (off := 0) (s := 1) (r := false) rfl rfl rfl (Nat.succ_ne_zero _) rfl rfl rfl rfl ?_
    refine rlic (v := .str _) rfl rfl rfl rfl rfl rfl rfl rfl ?_
    refine rmS rfl rfl rfl rfl rfl ?_
    refine rseq rfl rfl rfl rfl rfl rfl ?_ ?_ <;> intro h4_7
    · refine rNil ?_
      refine qSeq ?_
      refine wT rfl ?_
      refine wSeq ?_
      refine wRegion ?_
      refine rmI rfl rfl rfl rfl rfl ?_
      refine raI rfl rfl rfl rfl rfl ?_
      refine rNil ?_
      refine qSeq ?_
      refine wRet ?_
      refine qBlockR ?_
      refine qSeqR ?_
      refine qLoopR ?_
      refine qBlockR ?_
      refine qSeqR ?_
      first | (rw [fix, if_pos (hit_of hs (i := i) (by omega) h4_7).2, (hit_of hs (i := i) (by omega) h4_7).1]; exact fin rfl rfl)
    · refine rNil ?_
      refine qSeq ?_
      refine wF rfl ?_
      refine wSkip ?_
      refine qBlock ?_
      refine qSeq ?_
      refine wRegion ?_
      refine rmI rfl rfl rfl rfl rfl ?_
      refine raddF rfl rfl rfl ?_ ?_ rfl rfl rfl ?_
      · (first | omega | assumption | (focus (simp; omega)))
      · (first | omega | assumption | (focus (simp; omega)))
      refine raI rfl rfl rfl rfl rfl ?_
      refine rNil ?_
      refine qLoop ?_
      exact wlH (ih (i + 1) ⟨by omega, allS hI.2 h4_7⟩ (by omega)) (by (repeat first | exact LE.nil _ | refine LE.unk _ _ ?_ | refine LE.eq _ _ _ rfl ?_)) (by (repeat first | exact lessH0 | (refine lessHc ?_ ?_; (first | (first | ((simp (disch := omega) only [↓app0, ↓appC, ↓updS, ↓updN, ↓hpS, ↓hpN]) <;> first | rfl | assumption) | assumption | rfl) | fail)))) (Nat.le_refl _)
  · refine rNil ?_
    refine qSeq ?_
    refine wF rfl ?_
    refine wExit ?_
    refine qSeqX ?_
    refine qLoopX ?_
    refine qBlockX ?_
    refine qSeq ?_
    refine wSeq ?_
    refine wRegion ?_
    refine raI rfl rfl rfl rfl rfl ?_
    refine rNil ?_
    refine qSeq ?_
    refine wRet ?_
    rw [fix, if_neg (hit_no fun j hj => hI.2 j (by omega))]; exact fin rfl rfl
theorem o87 (fr nn b : Bool) (L : List Lk) (s : ByteArray) (hs : Srt L) (hL : L.length ≤ 1048576) {h : Heap} {n : Nat} : V.Open En 87 [.sl fr nn (L.map (Lk.T b)), .str s, .clo 88 []] h n (.tup [.int .i64 (pos s L), .bool (decide (hit s L))]) [] (n + L.length + 1) := by
  have hl : (L.map (Lk.T b)).length = L.length := List.length_map ..
  refine V.Open.of_wp Try.func87 rfl (Nat.le_of_ble_eq_true rfl) ?_
  refine wSeq ?_
  refine wRegion ?_
  refine raI rfl rfl rfl rfl rfl ?_
  refine raB rfl rfl rfl rfl rfl ?_
  refine rNil ?_
  refine qSeq ?_
  refine wSeq ?_
  refine wRegion ?_
  refine rmL rfl rfl rfl rfl rfl ?_
  refine rll rfl rfl rfl rfl rfl rfl ?_
  refine raI rfl rfl rfl rfl rfl ?_
  refine rNil ?_
  refine qSeq ?_
  refine wSeq ?_
  refine wRegion ?_
  refine rmI rfl rfl rfl rfl rfl ?_
  refine raI rfl rfl rfl rfl rfl ?_
  refine raI rfl rfl rfl rfl rfl ?_
  refine rNil ?_
  refine qSeq ?_
  refine wSeq ?_
  refine wBlock ?_
  refine wLoop ?_
  refine loopGo (fun (a : Nat × Nat × Nat) => [.sl fr nn (L.map (Lk.T b)), .str s, .clo 88 [], .unk, .unk, .unk, .unk, .unk, .int .i64 (L.map (Lk.T b)).length, .int .i64 a.1, .int .i64 a.2.1]) (fun (a : Nat × Nat × Nat) => h) (fun (a : Nat × Nat × Nat) => a.2.2) (fun (a : Nat × Nat × Nat) => a.1 ≤ a.2.1 ∧ a.2.1 ≤ L.length ∧ (∀ j, j < a.1 → ltS (lnm L j) s) ∧ (∀ j, a.2.1 ≤ j → j < L.length → ¬ ltS (lnm L j) s) ∧ n ≤ a.2.2 ∧ a.2.2 + (a.2.1 - a.1) ≤ n + L.length) (fun (a : Nat × Nat × Nat) => a.2.1 - a.1) (0, (L.map (Lk.T b)).length, n) ?_ ?_ ?_ ?_ ?_
  · exact ⟨Nat.zero_le _, by dsimp only; omega, all0, fun j h1 h2 => absurd h1 (by dsimp only; omega), Nat.le_refl _, by dsimp only; omega⟩
  · (repeat first | exact LE.nil _ | refine LE.unk _ _ ?_ | refine LE.eq _ _ _ rfl ?_)
  · exact LessH.refl _
  · exact Nat.le_refl _
  intro ⟨lo, hi, m⟩ hI ih
  dsimp only at hI ⊢
  obtain ⟨i1, i2, i3, i4, i5, i6⟩ := hI
  have hmid : (IntKind.u64.wrap ((lo : Int) + hi)).fdiv (2 ^ (min (1 : Int).toNat IntKind.u64.bits)) = (((lo + hi) / 2 : Nat) : Int) := by
    rw [IntKind.wrap_u64, show min (1 : Int).toNat IntKind.u64.bits = 1 from rfl, Int.emod_eq_of_lt (by omega) (by omega), Int.fdiv_eq_ediv_of_nonneg _ (by decide)]
    omega
  have hp1 : lo = hi → pos s L = lo := fun e => pos_eq (by omega) i3 (fun h2 => i4 lo (by omega) h2)
  refine lStep ?_
  refine wSeq ?_
  refine wSeq ?_
  refine wRegion ?_
  refine rmI rfl rfl rfl rfl rfl ?_
  refine rmI rfl rfl rfl rfl rfl ?_
  refine rlt rfl rfl rfl rfl rfl rfl ?_ ?_ <;> intro h3_2
  · refine rNil ?_
    refine qSeq ?_
    refine wT rfl ?_
    refine wSkip ?_
    refine qSeq ?_
    refine wBlock ?_
    refine wSeq ?_
    refine wRegion ?_
    refine rmI rfl rfl rfl rfl rfl ?_
    refine rmI rfl rfl rfl rfl rfl ?_
    refine raddF rfl rfl rfl ?_ ?_ rfl rfl rfl ?_
    · (first | omega | assumption | (focus (simp; omega)))
    · (first | omega | assumption | (focus (simp; omega)))
    refine rcv rfl rfl rfl rfl rfl rfl rfl ?_
    refine rshr rfl rfl rfl ?_ rfl rfl rfl ?_
    · (first | omega | assumption | (focus (simp; omega)))
    (refine r0 ((op_conv (k' := .i64) rfl rfl rfl rfl).to (v' := .int .i64 (((lo + hi) / 2 : Nat) : Int)) (by rw [hmid, wrap_fits (by omega) (by omega)])) rfl rfl rfl ?_)
    refine raI rfl rfl rfl rfl rfl ?_
    refine rNil ?_
    refine qSeq ?_
    refine wSeq ?_
    refine wRegion ?_
    refine rmC rfl rfl rfl rfl rfl ?_
    refine rmL rfl rfl rfl rfl rfl ?_
    refine rmI rfl rfl rfl rfl rfl ?_
    (apply rixl rfl rfl rfl rfl; (first | omega | assumption | (focus (simp; omega))); (first | rfl | assumption | (first | exact getMap (Lk.T b) Lk0 (k := (lo + hi) / 2) (by omega) | exact getMap (Lk.T b) Lk0 (k := lo) (by omega))); rfl; rfl; rfl; rfl)
    refine rlir (vs := [.str _, .int _ _, .int _ _, .int _ _, _]) rfl rfl rfl (Nat.le_of_ble_eq_true rfl) rfl rfl rfl rfl ?_
    refine rmS rfl rfl rfl rfl rfl ?_
    refine rop (o88 (L.getD ((lo + hi) / 2) Lk0) _ rfl s) rfl rfl rfl rfl rfl rfl ?_
    refine rlt rfl rfl rfl rfl rfl rfl ?_ ?_ <;> intro h5_7
    · refine rNil ?_
      refine qSeq ?_
      refine wT rfl ?_
      refine wRegion ?_
      refine rmI rfl rfl rfl rfl rfl ?_
      refine raddF rfl rfl rfl ?_ ?_ rfl rfl rfl ?_
      · (first | omega | assumption | (focus (simp; omega)))
      · (first | omega | assumption | (focus (simp; omega)))
      refine raI rfl rfl rfl rfl rfl ?_
      refine rNil ?_
      refine qBlock ?_
      refine qLoop ?_
      first
      | (have hx : ltS (lnm L ((lo + hi) / 2)) s := cb_lt.1 h5_7
         exact wlH (ih ((lo + hi) / 2 + 1, hi, m + 1) ⟨by dsimp only; omega, i2, fun j hj => by dsimp only at hj; by_cases e : j = (lo + hi) / 2 <;> first | (rw [e]; exact hx) | exact ltS_trans (hs.lt (j := (lo + hi) / 2) (by omega) (by omega)) hx, i4, by dsimp only; omega, by dsimp only; omega⟩ (by dsimp only; omega)) (by (repeat first | exact LE.nil _ | refine LE.unk _ _ ?_ | refine LE.eq _ _ _ rfl ?_)) (LessH.refl _) (Nat.le_refl _))
      | exact wlH (ih (lo, (lo + hi) / 2, m + 1) ⟨by dsimp only; omega, by dsimp only; omega, i3, fun j hj hj2 e => by
          dsimp only at hj
          refine h5_7 (cb_lt.2 ?_)
          by_cases e2 : j = (lo + hi) / 2
          · rw [e2] at e; exact e
          · exact ltS_trans (hs.lt (i := (lo + hi) / 2) (by omega) hj2) e, by dsimp only; omega, by dsimp only; omega⟩ (by dsimp only; omega)) (by (repeat first | exact LE.nil _ | refine LE.unk _ _ ?_ | refine LE.eq _ _ _ rfl ?_)) (LessH.refl _) (Nat.le_refl _)
    · refine rNil ?_
      refine qSeq ?_
      refine wF rfl ?_
      refine wRegion ?_
      refine rmI rfl rfl rfl rfl rfl ?_
      refine raI rfl rfl rfl rfl rfl ?_
      refine rNil ?_
      refine qBlock ?_
      refine qLoop ?_
      first
      | (have hx : ltS (lnm L ((lo + hi) / 2)) s := cb_lt.1 h5_7
         exact wlH (ih ((lo + hi) / 2 + 1, hi, m + 1) ⟨by dsimp only; omega, i2, fun j hj => by dsimp only at hj; by_cases e : j = (lo + hi) / 2 <;> first | (rw [e]; exact hx) | exact ltS_trans (hs.lt (j := (lo + hi) / 2) (by omega) (by omega)) hx, i4, by dsimp only; omega, by dsimp only; omega⟩ (by dsimp only; omega)) (by (repeat first | exact LE.nil _ | refine LE.unk _ _ ?_ | refine LE.eq _ _ _ rfl ?_)) (LessH.refl _) (Nat.le_refl _))
      | exact wlH (ih (lo, (lo + hi) / 2, m + 1) ⟨by dsimp only; omega, by dsimp only; omega, i3, fun j hj hj2 e => by
          dsimp only at hj
          refine h5_7 (cb_lt.2 ?_)
          by_cases e2 : j = (lo + hi) / 2
          · rw [e2] at e; exact e
          · exact ltS_trans (hs.lt (i := (lo + hi) / 2) (by omega) hj2) e, by dsimp only; omega, by dsimp only; omega⟩ (by dsimp only; omega)) (by (repeat first | exact LE.nil _ | refine LE.unk _ _ ?_ | refine LE.eq _ _ _ rfl ?_)) (LessH.refl _) (Nat.le_refl _)
  · refine rNil ?_
    refine qSeq ?_
    refine wF rfl ?_
    refine wExit ?_
    refine qSeqX ?_
    refine qLoopX ?_
    refine qBlockX ?_
    refine qSeq ?_
    refine wSeq ?_
    refine wRegion ?_
    refine rmI rfl rfl rfl rfl rfl ?_
    refine rmI rfl rfl rfl rfl rfl ?_
    refine rmI rfl rfl rfl rfl rfl ?_
    refine rlt rfl rfl rfl rfl rfl rfl ?_ ?_ <;> intro h8_3
    · refine rmB rfl rfl rfl rfl rfl ?_
      refine rmC rfl rfl rfl rfl rfl ?_
      refine rmL rfl rfl rfl rfl rfl ?_
      refine rmI rfl rfl rfl rfl rfl ?_
      (apply rixl rfl rfl rfl rfl; (first | omega | assumption | (focus (simp; omega))); (first | rfl | assumption | (first | exact getMap (Lk.T b) Lk0 (k := (lo + hi) / 2) (by omega) | exact getMap (Lk.T b) Lk0 (k := lo) (by omega))); rfl; rfl; rfl; rfl)
      refine rlir (vs := [.str _, .int _ _, .int _ _, .int _ _, _]) rfl rfl rfl (Nat.le_of_ble_eq_true rfl) rfl rfl rfl rfl ?_
      refine rmS rfl rfl rfl rfl rfl ?_
      refine rop (o88 (L.getD lo Lk0) _ rfl s) rfl rfl rfl rfl rfl rfl ?_
      refine req rfl rfl rfl rfl rfl rfl ?_ ?_ <;> intro h8_12
      · refine rpk (e := true) rfl rfl rfl rfl rfl rfl ?_
        refine raI rfl rfl rfl rfl rfl ?_
        refine raB rfl rfl rfl rfl rfl ?_
        refine rNil ?_
        refine qSeq ?_
        refine wRet ?_
        have e : lo = hi := (by omega); have hp1 := hp1 e; (first | (have hd : hit s L := (hit_of hs (i := lo) (by omega) (cb_eq.1 h8_12)).2; rw [decide_eq_true hd, hp1]; exact finO rfl rfl (fun _ _ _ e => e) (by omega)) | (have hd : ¬ hit s L := (fun hq => by have q1 := hq.1; have q2 := hq.2; rw [hp1] at q1 q2; first | omega | exact h8_12 (cb_eq.2 q2)); rw [decide_eq_false hd, hp1]; exact finO rfl rfl (fun _ _ _ e => e) (by omega)))
      · refine rpk (e := false) rfl rfl rfl rfl rfl rfl ?_
        refine raI rfl rfl rfl rfl rfl ?_
        refine raB rfl rfl rfl rfl rfl ?_
        refine rNil ?_
        refine qSeq ?_
        refine wRet ?_
        have e : lo = hi := (by omega); have hp1 := hp1 e; (first | (have hd : hit s L := (hit_of hs (i := lo) (by omega) (cb_eq.1 h8_12)).2; rw [decide_eq_true hd, hp1]; exact finO rfl rfl (fun _ _ _ e => e) (by omega)) | (have hd : ¬ hit s L := (fun hq => by have q1 := hq.1; have q2 := hq.2; rw [hp1] at q1 q2; first | omega | exact h8_12 (cb_eq.2 q2)); rw [decide_eq_false hd, hp1]; exact finO rfl rfl (fun _ _ _ e => e) (by omega)))
    · refine rmB rfl rfl rfl rfl rfl ?_
      refine rSkip rfl rfl rfl ?_
      refine rSkip rfl rfl rfl ?_
      refine rSkip rfl rfl rfl ?_
      refine rSkip rfl rfl rfl ?_
      refine rSkip rfl rfl rfl ?_
      refine rSkip rfl rfl rfl ?_
      refine rSkip rfl rfl rfl ?_
      refine rSkip rfl rfl rfl ?_
      refine rpk (e := false) rfl rfl rfl rfl rfl rfl ?_
      refine raI rfl rfl rfl rfl rfl ?_
      refine raB rfl rfl rfl rfl rfl ?_
      refine rNil ?_
      refine qSeq ?_
      refine wRet ?_
      have e : lo = hi := (by omega); have hp1 := hp1 e; (first | (have hd : hit s L := (hit_of hs (i := lo) (by omega) (cb_eq.1 h8_12)).2; rw [decide_eq_true hd, hp1]; exact finO rfl rfl (fun _ _ _ e => e) (by omega)) | (have hd : ¬ hit s L := (fun hq => by have q1 := hq.1; have q2 := hq.2; rw [hp1] at q1 q2; first | omega | exact h8_12 (cb_eq.2 q2)); rw [decide_eq_false hd, hp1]; exact finO rfl rfl (fun _ _ _ e => e) (by omega)))
theorem o48 (tm nx : Int) (n1 b : Bool) (L : List Lk) (Ss : V) (s : ByteArray) (hs : Srt L) (hL : L.length ≤ 1048576) {id : Nat} {h : Heap} {n : Nat} (hid : id < n) (hh : h id = some ⟨[[.int .i64 tm, .int .i64 nx, .sl false n1 (L.map (Lk.T b)), Ss]], 4, 35⟩) : V.Open En 48 [.ptr id 0 0, .str s] h n (.tup [.int .i64 (pos s L), .bool (decide (hit s L))]) [] (n + L.length + 1) := by
  refine V.Open.of_wp Try.func48 rfl (Nat.le_of_ble_eq_true rfl) ?_
  refine wSeq ?_
  refine wRegion ?_
  refine raI rfl rfl rfl rfl rfl ?_
  refine raB rfl rfl rfl rfl rfl ?_
  refine rNil ?_
  refine qSeq ?_
  refine wSeq ?_
  refine wRegion ?_
  refine rmP rfl rfl rfl rfl rfl ?_
  refine rnc (v := .ptr _ _ _) rfl rfl rfl rfl rfl rfl ?_
  refine rfa (off := 2) (s := 1) (r := false) rfl rfl rfl (Nat.succ_ne_zero _) rfl rfl rfl ?_
  (apply rlc (v := .sl _ _ _) rfl rfl; (first | ((simp (disch := omega) only [↓app0, ↓appC, ↓updS, ↓updN, ↓hpS, ↓hpN]) <;> first | rfl | assumption) | assumption | rfl); rfl; rfl; rfl; rfl; rfl; rfl)
  refine rmS rfl rfl rfl rfl rfl ?_
  refine rop (o87 false n1 b L s hs hL) rfl rfl rfl rfl rfl rfl ?_
  refine rex rfl rfl rfl rfl rfl rfl ?_
  refine rexB rfl rfl rfl rfl rfl rfl ?_ ?_ <;> intro h1_7
  · refine raI rfl rfl rfl rfl rfl ?_
    refine raB rfl rfl rfl rfl rfl ?_
    refine rNil ?_
    refine qSeq ?_
    refine wRet ?_
    first | (rw [h1_7]; exact finO rfl rfl (fun _ _ _ e => e) (Nat.le_refl _)) | (rw [h1_7]; exact finO rfl rfl (fun _ _ _ e => e) (Nat.le_refl _))
  · refine raI rfl rfl rfl rfl rfl ?_
    refine raB rfl rfl rfl rfl rfl ?_
    refine rNil ?_
    refine qSeq ?_
    refine wRet ?_
    first | (rw [h1_7]; exact finO rfl rfl (fun _ _ _ e => e) (Nat.le_refl _)) | (rw [h1_7]; exact finO rfl rfl (fun _ _ _ e => e) (Nat.le_refl _))
end Go.Proofs.Ytknnniaoboaghaa
