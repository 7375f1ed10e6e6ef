import Derived.Test.YtknnniaoboaghaaA5
namespace Go.Proofs.Ytknnniaoboaghaa
open Go.V
set_option linter.unusedVariables false
set_option linter.unusedSimpArgs false
set_option maxRecDepth 20000
set_option maxHeartbeats 4000000

/-! The law's own: marks. -/
theorem strOf_size (l : List Int) : (strOf l).size = l.length := by
  simp [strOf, ByteArray.size]
theorem qd {a : Int} (h0 : 0 < a) (h1 : a ≤ 1152921504606846976) : 0 ≤ IntKind.i64.wrap (a.tdiv 10) ∧ IntKind.i64.wrap (a.tdiv 10) < a := by
  rw [Int.tdiv_eq_ediv_of_nonneg (by omega), wrap_i64 (by omega) (by omega)]; omega
theorem rd {a : Int} (h0 : 0 < a) (h1 : a ≤ 1152921504606846976) : 0 ≤ a.tmod 10 ∧ a.tmod 10 ≤ 9 := by
  rw [Int.tmod_eq_emod_of_nonneg (by omega)]; omega
theorem s94 (k : Int) (hk : 0 ≤ k ∧ k ≤ 1152921504606846976) : ∃ s : ByteArray, True ∧ Pure En 94 [.one (.int .i64 k)] [.one (.str s)] := by
  refine Pure.of_wpX Try.func94 rfl (Nat.le_of_ble_eq_true rfl) ?_
  refine wSeq ?_
  refine wRegion ?_
  refine raS rfl rfl rfl rfl rfl ?_
  refine rNil ?_
  refine qSeq ?_
  refine wSeq ?_
  refine wSeq ?_
  refine wRegion ?_
  refine rmI rfl rfl rfl rfl rfl ?_
  refine rle rfl rfl rfl rfl rfl rfl ?_ ?_ <;> intro h1_1
  · refine rNil ?_
    refine qSeq ?_
    refine wT rfl ?_
    refine wSeq ?_
    refine wRegion ?_
    refine raS rfl rfl rfl rfl rfl ?_
    refine rNil ?_
    refine qSeq ?_
    refine wRet ?_
    refine qSeqR ?_
    first | exact ⟨_, trivial, fin rfl rfl⟩
  · refine rNil ?_
    refine qSeq ?_
    refine wF rfl ?_
    refine wSkip ?_
    refine qSeq ?_
    refine wSeq ?_
    refine wRegion ?_
    refine raS rfl rfl rfl rfl rfl ?_
    refine rNil ?_
    refine qSeq ?_
    refine wSeq ?_
    refine wBlock ?_
    refine wLoop ?_
    refine loopGo (fun (a : Int × ByteArray × Nat) => [.int .i64 a.1, .unk, .unk, .str a.2.1]) (fun (a : Int × ByteArray × Nat) => hp []) (fun (a : Int × ByteArray × Nat) => a.2.2) (fun (a : Int × ByteArray × Nat) => 0 ≤ a.1 ∧ (a.2.1.size : Int) + a.1 ≤ k) (fun (a : Int × ByteArray × Nat) => a.1.toNat) (k, ⟨#[]⟩, 0) ?_ ?_ ?_ ?_ ?_
    · exact ⟨by dsimp only; omega, by show ((0 : Nat) : Int) + k ≤ k; omega⟩
    · (repeat first | exact LE.nil _ | refine LE.unk _ _ ?_ | refine LE.eq _ _ _ rfl ?_)
    · exact lessH0
    · exact Nat.le_refl _
    intro ⟨x, s, m⟩ hI ih
    dsimp only at hI ⊢
    have hq := fun h0 => qd (a := x) h0 (by omega)
    have hr := fun h0 => rd (a := x) h0 (by omega)
    refine lStep ?_
    refine wSeq ?_
    refine wSeq ?_
    refine wRegion ?_
    refine rmI rfl rfl rfl rfl rfl ?_
    refine rgt rfl rfl rfl rfl rfl rfl ?_ ?_ <;> intro h4_1
    · refine rNil ?_
      refine qSeq ?_
      refine wT rfl ?_
      refine wSkip ?_
      refine qSeq ?_
      refine wBlock ?_
      refine wSeq ?_
      refine wRegion ?_
      refine rmI rfl rfl rfl rfl rfl ?_
      refine rrem rfl rfl rfl ?_ rfl rfl rfl ?_
      · (first | omega | assumption | (rw [strOf_size]; show ((1 : Nat) : Int) + _ ≤ _; omega) | (rw [strOf_size]; show 1 + _ ≤ _; omega) | (show 1 + _ ≤ _; omega) | (focus (simp; omega)))
      (have hr1 := hr (by omega); refine raddF rfl rfl rfl ?_ ?_ rfl rfl rfl ?_; omega; omega)
      refine rcv rfl rfl rfl rfl rfl rfl rfl ?_
      refine rbs (es := [[.int _ _]]) rfl rfl rfl rfl (Nat.succ_ne_zero _) (Nat.le_of_ble_eq_true rfl) rfl rfl rfl rfl rfl ?_
      (apply rsg rfl rfl rfl rfl; (apply srcView rfl; (first | ((simp (disch := omega) only [↓app0, ↓appC, ↓updS, ↓updN, ↓hpS, ↓hpN]) <;> first | rfl | assumption) | assumption | rfl); (first | exact Nat.le_refl _ | omega | (simp; omega)); rfl); (intro s e; cases e); exact (show _ = List.map (fun b => [V.int .u8 b]) [_] from rfl); rfl; rfl; rfl)
      refine rmS rfl rfl rfl rfl rfl ?_
      refine rcat rfl rfl rfl ?_ rfl rfl rfl ?_
      · (first | omega | assumption | (rw [strOf_size]; show ((1 : Nat) : Int) + _ ≤ _; omega) | (rw [strOf_size]; show 1 + _ ≤ _; omega) | (show 1 + _ ≤ _; omega) | (focus (simp; omega)))
      refine raS rfl rfl rfl rfl rfl ?_
      refine rNil ?_
      refine qSeq ?_
      refine wRegion ?_
      refine rmI rfl rfl rfl rfl rfl ?_
      refine rquo rfl rfl rfl ?_ rfl rfl rfl ?_
      · (first | omega | assumption | (rw [strOf_size]; show ((1 : Nat) : Int) + _ ≤ _; omega) | (rw [strOf_size]; show 1 + _ ≤ _; omega) | (show 1 + _ ≤ _; omega) | (focus (simp; omega)))
      refine raI rfl rfl rfl rfl rfl ?_
      refine rNil ?_
      refine qBlock ?_
      refine qLoop ?_
      have hq1 := hq (by omega)
      exact wlH (ih (IntKind.i64.wrap (x.tdiv 10), strOf [IntKind.u8.wrap (48 + x.tmod 10)] ++ s, m + 1) ⟨by dsimp only; omega, by dsimp only; rw [ByteArray.size_append, strOf_size]; show (((1 + s.size : Nat)) : Int) + _ ≤ _; omega⟩ (by dsimp only; omega)) (by (repeat first | exact LE.nil _ | refine LE.unk _ _ ?_ | refine LE.eq _ _ _ rfl ?_)) lessH0 (Nat.le_refl _)
    · refine rNil ?_
      refine qSeq ?_
      refine wF rfl ?_
      refine wExit ?_
      refine qSeqX ?_
      refine qLoopX ?_
      refine qBlockX ?_
      refine qSeq ?_
      refine wSeq ?_
      refine wRegion ?_
      refine rmS rfl rfl rfl rfl rfl ?_
      refine rcat rfl rfl rfl ?_ rfl rfl rfl ?_
      · (first | omega | assumption | (rw [strOf_size]; show ((1 : Nat) : Int) + _ ≤ _; omega) | (rw [strOf_size]; show 1 + _ ≤ _; omega) | (show 1 + _ ≤ _; omega) | (focus (simp; omega)))
      refine raS rfl rfl rfl rfl rfl ?_
      refine rNil ?_
      refine qSeq ?_
      refine wRet ?_
      first | exact ⟨_, trivial, fin rfl rfl⟩
theorem mt_ex (k : Int) : ∃ s : ByteArray, 0 ≤ k ∧ k ≤ 1152921504606846976 → Pure En 94 [.one (.int .i64 k)] [.one (.str s)] := by
  by_cases h : 0 ≤ k ∧ k ≤ 1152921504606846976
  · obtain ⟨s, _, h2⟩ := s94 k h; exact ⟨s, fun _ => h2⟩
  · exact ⟨⟨#[]⟩, fun h' => absurd h' h⟩
noncomputable def Mt (k : Int) : ByteArray := Classical.choose (mt_ex k)
theorem q94 (k : Int) (h : 0 ≤ k ∧ k ≤ 1152921504606846976) : Pure En 94 [.one (.int .i64 k)] [.one (.str (Mt k))] := Classical.choose_spec (mt_ex k) h
def mWt (y : Int) : Wt := (y, y + 1)
def mSn (y : Int) : Sn := ⟨y, y + 1, ⟨y + 1 + 1, y + 1 + 1 + 1, y + 1 + 1 + 1 + 1, y + 1 + 1 + 1 + 1 + 1⟩⟩
def MW (k : Int) (m : Nat) : List Wt := (List.range m).map fun (j : Nat) => mWt (k + 2 * (j : Int))
def MS (k : Int) (m : Nat) : List Sn := (List.range m).map fun (j : Nat) => mSn (k + 6 * (j : Int))
theorem MW_len (k : Int) (m : Nat) : (MW k m).length = m := by simp [MW]
theorem MS_len (k : Int) (m : Nat) : (MS k m).length = m := by simp [MS]
theorem MW_get {k : Int} {m i : Nat} (h : i < m) : (MW k m).getD i (0, 0) = mWt (k + 2 * (i : Int)) := by simp [MW, List.getD_eq_getElem?_getD, h]
theorem MS_get {k : Int} {m i : Nat} (h : i < m) : (MS k m).getD i Sn0 = mSn (k + 6 * (i : Int)) := by simp [MS, List.getD_eq_getElem?_getD, h]
/-- The first i of a list are marked. -/
def mix {α : Type} (A L : List α) (i : Nat) : List α := A.take i ++ L.drop i
theorem mix_zero {α : Type} (A L : List α) : mix A L 0 = L := by simp [mix]
theorem mix_full {α : Type} {A L : List α} (h : A.length = L.length) : mix A L L.length = A := by
  unfold mix; rw [List.drop_length, List.append_nil, ← h, List.take_length]
theorem mix_len {α : Type} {A L : List α} {i : Nat} (h : A.length = L.length) (hi : i ≤ L.length) : (mix A L i).length = L.length := by
  simp [mix]; omega
theorem mix_set {α : Type} (f : α → List V) (d : α) {A L : List α} {i : Nat} {z : List V} (h : A.length = L.length) (hi : i < L.length) (hz : f (A.getD i d) = z) : ((mix A L i).map f).set (0 + i) z = (mix A L (i + 1)).map f := by
  subst hz
  have e1 : (A.take i).length = i := by simp; omega
  have e2 : L.drop i = L.getD i d :: L.drop (i + 1) := by
    rw [List.getD_eq_getElem?_getD, List.getElem?_eq_getElem hi, Option.getD_some, List.drop_eq_getElem_cons hi]
  have e3 : A.take (i + 1) = A.take i ++ [A.getD i d] := by
    rw [List.take_add_one]; simp [show i < A.length by omega]
  have e4 : ((A.take i).map f).length = i := by rw [List.length_map, e1]
  unfold mix
  rw [e2, List.map_append, Nat.zero_add, List.set_append_right _ _ (by omega), e4, Nat.sub_self, e3, List.map_cons, List.set_cons_zero, List.map_append, List.map_append, List.append_assoc]
  rfl
theorem getM {α : Type} (f : α → List V) (d : α) {X : List α} {i : Nat} (h : i < X.length) : (X.map f)[0 + i]? = some (f (X.getD i d)) := by
  rw [Nat.zero_add]; exact getMap f d h
theorem gsS {es : List (List V)} {i : Nat} {x : List V} (h : i < es.length) : (es.set (0 + i) x)[0 + i]? = some x := by
  rw [Nat.zero_add]; exact List.getElem?_set_self h
theorem mix_get {α : Type} {A L : List α} (d : α) {i j : Nat} (h : A.length = L.length) (hi : i ≤ L.length) : (mix A L i).getD j d = if j < i then A.getD j d else L.getD j d := by
  unfold mix
  rw [List.getD_eq_getElem?_getD]
  split
  · rename_i hj
    rw [List.getElem?_append_left (by simp; omega), List.getElem?_take_of_lt hj, ← List.getD_eq_getElem?_getD]
  · rename_i hj
    rw [List.getElem?_append_right (by simp; omega), List.getElem?_drop, List.length_take, ← List.getD_eq_getElem?_getD]
    congr 1; omega
theorem o55 (L : List Wt) (k : Int) (hk : 0 ≤ k ∧ k ≤ 1125899906842624) (hL : L.length ≤ 1048577) {id : Nat} {h : Heap} {n : Nat} (hid : id < n) (k1 : h id = some ⟨L.map wtV, 2, 123⟩) :
    V.Open En 55 [.view id 0 L.length, .int .i64 k] h n (.int .i64 (k + 2 * (L.length : Int))) [(id, some ⟨(MW k L.length).map wtV, 2, 123⟩)] n := by
  have hMl : (MW k L.length).length = L.length := MW_len k L.length
  refine V.Open.fresh rfl (Nat.le_refl _) fun hz => ?_
  refine V.Open.of_wp Try.func55 rfl (Nat.le_of_ble_eq_true rfl) ?_
  refine wSeq ?_
  refine wRegion ?_
  refine raI rfl rfl rfl rfl rfl ?_
  refine rNil ?_
  refine qSeq ?_
  refine wSeq ?_
  refine wSeq ?_
  refine wRegion ?_
  refine raI rfl rfl rfl rfl rfl ?_
  refine rNil ?_
  refine qSeq ?_
  refine wBlock ?_
  refine wLoop ?_
  refine loopGo (fun (a : Nat × Int) => [.view id 0 L.length, .int .i64 a.2, .unk, .unk, .unk, .int .i64 a.1]) (fun (a : Nat × Int) => app [(id, some ⟨(mix (MW k L.length) L a.1).map wtV, 2, 123⟩)] h) (fun (a : Nat × Int) => n) (fun (a : Nat × Int) => a.1 ≤ L.length ∧ a.2 = k + 2 * (a.1 : Int)) (fun (a : Nat × Int) => L.length - a.1) (0, k) ?_ ?_ ?_ ?_ ?_
  · exact ⟨Nat.zero_le _, by dsimp only; omega⟩
  · (repeat first | exact LE.nil _ | refine LE.unk _ _ ?_ | refine LE.eq _ _ _ rfl ?_)
  · dsimp only
    refine lessApp (n := n) hz (fun jx hj => ?_) (fun jx hl hn => ?_)
    · simp only [List.map_cons, List.map_nil, List.mem_cons, List.not_mem_nil, or_false] at hj
      rcases hj with rfl <;> (simp (disch := omega) only [↓app0, ↓appC, ↓updS, ↓updN, ↓hpS, ↓hpN]) <;> first | rfl | assumption | exact k1.trans (by rw [mix_zero])
    · simp only [List.map_cons, List.map_nil, List.mem_cons, List.not_mem_nil, or_false, not_or] at hn
      (simp (disch := omega) only [↓app0, ↓appC, ↓updS, ↓updN, ↓hpS, ↓hpN])
  · exact Nat.le_refl _
  intro ⟨i, y⟩ hI ih
  dsimp only at hI ⊢
  have hml := mix_len (i := i) hMl hI.1
  have hx : i < L.length → (MW k L.length).getD i (0, 0) = mWt y := fun h => by rw [MW_get h, hI.2]
  refine lStep ?_
  refine wSeq ?_
  refine wSeq ?_
  refine wRegion ?_
  refine rmI rfl rfl rfl rfl rfl ?_
  refine rmV rfl rfl rfl rfl rfl ?_
  refine rll rfl rfl rfl rfl rfl rfl ?_
  refine rlt rfl rfl rfl rfl rfl rfl ?_ ?_ <;> intro h2_3
  · refine rNil ?_
    refine qSeq ?_
    refine wT rfl ?_
    refine wSkip ?_
    refine qSeq ?_
    refine wSeq ?_
    refine wBlock ?_
    refine wSeq ?_
    refine wRegion ?_
    refine rmV rfl rfl rfl rfl rfl ?_
    refine rmI rfl rfl rfl rfl rfl ?_
    refine rmI rfl rfl rfl rfl rfl ?_
    (apply rixv rfl rfl rfl rfl; (first | ((simp (disch := omega) only [↓app0, ↓appC, ↓updS, ↓updN, ↓hpS, ↓hpN]) <;> first | rfl | assumption) | assumption | rfl); rfl; (first | omega | assumption | (focus (simp; omega))); (first | omega | assumption | (focus (simp; omega))); rfl; rfl; rfl)
    refine rfa (off := 0) (s := 1) (r := false) rfl rfl rfl (Nat.succ_ne_zero _) rfl rfl rfl ?_
    (apply rst (u := .int _ _) rfl rfl rfl; (first | ((simp (disch := omega) only [↓app0, ↓appC, ↓updS, ↓updN, ↓hpS, ↓hpN]) <;> first | rfl | assumption) | assumption | rfl); exact getM wtV (0, 0) (by rw [hml]; omega); rfl; rfl; rfl; rfl; (exact Nat.le_of_ble_eq_true rfl); rfl; rfl; rfl)
    refine rNil ?_
    refine qSeq ?_
    refine wSeq ?_
    refine wRegion ?_
    refine rmI rfl rfl rfl rfl rfl ?_
    refine raddF rfl rfl rfl ?_ ?_ rfl rfl rfl ?_
    · omega
    · omega
    refine raI rfl rfl rfl rfl rfl ?_
    refine rNil ?_
    refine qSeq ?_
    refine wSeq ?_
    refine wRegion ?_
    refine rmV rfl rfl rfl rfl rfl ?_
    refine rmI rfl rfl rfl rfl rfl ?_
    refine rmI rfl rfl rfl rfl rfl ?_
    (apply rixv rfl rfl rfl rfl; (first | ((simp (disch := omega) only [↓app0, ↓appC, ↓updS, ↓updN, ↓hpS, ↓hpN]) <;> first | rfl | assumption) | assumption | rfl); rfl; (first | omega | assumption | (focus (simp; omega))); (first | omega | assumption | (focus (simp; omega))); rfl; rfl; rfl)
    refine rfa (off := 1) (s := 1) (r := false) rfl rfl rfl (Nat.succ_ne_zero _) rfl rfl rfl ?_
    (apply rst (u := .int _ _) rfl rfl rfl; (first | ((simp (disch := omega) only [↓app0, ↓appC, ↓updS, ↓updN, ↓hpS, ↓hpN]) <;> first | rfl | assumption) | assumption | rfl); exact gsS (by simp only [List.length_set, List.length_map]; rw [hml]; omega); rfl; rfl; rfl; rfl; (exact Nat.le_of_ble_eq_true rfl); rfl; rfl; rfl)
    refine rNil ?_
    refine qSeq ?_
    refine wRegion ?_
    refine rmI rfl rfl rfl rfl rfl ?_
    refine raddF rfl rfl rfl ?_ ?_ rfl rfl rfl ?_
    · omega
    · omega
    refine raI rfl rfl rfl rfl rfl ?_
    refine rNil ?_
    refine qBlock ?_
    refine qSeq ?_
    refine wRegion ?_
    refine rmI rfl rfl rfl rfl rfl ?_
    refine raddF rfl rfl rfl ?_ ?_ rfl rfl rfl ?_
    · omega
    · omega
    refine raI rfl rfl rfl rfl rfl ?_
    refine rNil ?_
    refine qLoop ?_
    exact wlH (ih (i + 1, y + 1 + 1) ⟨by dsimp only; omega, by dsimp only; omega⟩ (by dsimp only; omega)) (by (repeat first | exact LE.nil _ | refine LE.unk _ _ ?_ | refine LE.eq _ _ _ rfl ?_)) (by
      dsimp only
      refine lessApp (n := n) hz (fun jx hj => ?_) (fun jx hl hn => ?_)
      · simp only [List.map_cons, List.map_nil, List.mem_cons, List.not_mem_nil, or_false] at hj
        rcases hj with rfl <;> (simp (disch := omega) only [↓app0, ↓appC, ↓updS, ↓updN, ↓hpS, ↓hpN]) <;> first | rfl | assumption | (refine congrArg (fun z => some (Blk.mk z 2 123)) ?_; simp only [List.set_set]; exact mix_set wtV (0, 0) hMl (by omega) (by rw [hx (by omega)]; rfl))
      · simp only [List.map_cons, List.map_nil, List.mem_cons, List.not_mem_nil, or_false, not_or] at hn
        (simp (disch := omega) only [↓app0, ↓appC, ↓updS, ↓updN, ↓hpS, ↓hpN])) (Nat.le_refl _)
  · refine rNil ?_
    refine qSeq ?_
    refine wF rfl ?_
    refine wExit ?_
    refine qSeqX ?_
    refine qLoopX ?_
    refine qBlockX ?_
    refine qSeq ?_
    refine wSeq ?_
    refine wRegion ?_
    refine rmI rfl rfl rfl rfl rfl ?_
    refine raI rfl rfl rfl rfl rfl ?_
    refine rNil ?_
    refine qSeq ?_
    refine wRet ?_
    obtain rfl : i = L.length := by omega
    exact finO rfl (congrArg (V.int .i64) hI.2) (leWr (by
      intro j hj
      simp only [List.map_cons, List.map_nil, List.mem_cons, List.not_mem_nil, or_false] at hj
      rcases hj with rfl <;> (simp (disch := omega) only [↓app0, ↓appC, ↓updS, ↓updN, ↓hpS, ↓hpN]) <;> first | rfl | (exact congrArg (fun z => some (Blk.mk z 2 123)) (congrArg (List.map wtV) (mix_full hMl)))) (fun j hj hn => by
      simp only [List.map_cons, List.map_nil, List.mem_cons, List.not_mem_nil, or_false, not_or] at hn
      (simp (disch := omega) only [↓app0, ↓appC, ↓updS, ↓updN, ↓hpS, ↓hpN]) <;> rfl)) (Nat.le_refl _)
theorem o54 (L : List Sn) (k : Int) (hk : 0 ≤ k ∧ k ≤ 1125899906842624) (hL : L.length ≤ 1048577) {id : Nat} {h : Heap} {n : Nat} (hid : id < n) (k1 : h id = some ⟨L.map Sn.V, 6, 115⟩) :
    V.Open En 54 [.view id 0 L.length, .int .i64 k] h n (.int .i64 (k + 6 * (L.length : Int))) [(id, some ⟨(MS k L.length).map Sn.V, 6, 115⟩)] n := by
  have hMl : (MS k L.length).length = L.length := MS_len k L.length
  refine V.Open.fresh rfl (Nat.le_refl _) fun hz => ?_
  refine V.Open.of_wp Try.func54 rfl (Nat.le_of_ble_eq_true rfl) ?_
  refine wSeq ?_
  refine wRegion ?_
  refine raI rfl rfl rfl rfl rfl ?_
  refine rNil ?_
  refine qSeq ?_
  refine wSeq ?_
  refine wSeq ?_
  refine wRegion ?_
  refine raI rfl rfl rfl rfl rfl ?_
  refine rNil ?_
  refine qSeq ?_
  refine wBlock ?_
  refine wLoop ?_
  refine loopGo (fun (a : Nat × Int) => [.view id 0 L.length, .int .i64 a.2, .unk, .unk, .unk, .int .i64 a.1]) (fun (a : Nat × Int) => app [(id, some ⟨(mix (MS k L.length) L a.1).map Sn.V, 6, 115⟩)] h) (fun (a : Nat × Int) => n) (fun (a : Nat × Int) => a.1 ≤ L.length ∧ a.2 = k + 6 * (a.1 : Int)) (fun (a : Nat × Int) => L.length - a.1) (0, k) ?_ ?_ ?_ ?_ ?_
  · exact ⟨Nat.zero_le _, by dsimp only; omega⟩
  · (repeat first | exact LE.nil _ | refine LE.unk _ _ ?_ | refine LE.eq _ _ _ rfl ?_)
  · dsimp only
    refine lessApp (n := n) hz (fun jx hj => ?_) (fun jx hl hn => ?_)
    · simp only [List.map_cons, List.map_nil, List.mem_cons, List.not_mem_nil, or_false] at hj
      rcases hj with rfl <;> (simp (disch := omega) only [↓app0, ↓appC, ↓updS, ↓updN, ↓hpS, ↓hpN]) <;> first | rfl | assumption | exact k1.trans (by rw [mix_zero])
    · simp only [List.map_cons, List.map_nil, List.mem_cons, List.not_mem_nil, or_false, not_or] at hn
      (simp (disch := omega) only [↓app0, ↓appC, ↓updS, ↓updN, ↓hpS, ↓hpN])
  · exact Nat.le_refl _
  intro ⟨i, y⟩ hI ih
  dsimp only at hI ⊢
  have hml := mix_len (i := i) hMl hI.1
  have hx : i < L.length → (MS k L.length).getD i Sn0 = mSn y := fun h => by rw [MS_get h, hI.2]
  refine lStep ?_
  refine wSeq ?_
  refine wSeq ?_
  refine wRegion ?_
  refine rmI rfl rfl rfl rfl rfl ?_
  refine rmV rfl rfl rfl rfl rfl ?_
  refine rll rfl rfl rfl rfl rfl rfl ?_
  refine rlt rfl rfl rfl rfl rfl rfl ?_ ?_ <;> intro h2_3
  · refine rNil ?_
    refine qSeq ?_
    refine wT rfl ?_
    refine wSkip ?_
    refine qSeq ?_
    refine wSeq ?_
    refine wBlock ?_
    refine wSeq ?_
    refine wRegion ?_
    refine rmV rfl rfl rfl rfl rfl ?_
    refine rmI rfl rfl rfl rfl rfl ?_
    refine rmI rfl rfl rfl rfl rfl ?_
    (apply rixv rfl rfl rfl rfl; (first | ((simp (disch := omega) only [↓app0, ↓appC, ↓updS, ↓updN, ↓hpS, ↓hpN]) <;> first | rfl | assumption) | assumption | rfl); rfl; (first | omega | assumption | (focus (simp; omega))); (first | omega | assumption | (focus (simp; omega))); rfl; rfl; rfl)
    refine rfa (off := 0) (s := 1) (r := false) rfl rfl rfl (Nat.succ_ne_zero _) rfl rfl rfl ?_
    (apply rst (u := .int _ _) rfl rfl rfl; (first | ((simp (disch := omega) only [↓app0, ↓appC, ↓updS, ↓updN, ↓hpS, ↓hpN]) <;> first | rfl | assumption) | assumption | rfl); exact getM Sn.V Sn0 (by rw [hml]; omega); rfl; rfl; rfl; rfl; (exact Nat.le_of_ble_eq_true rfl); rfl; rfl; rfl)
    refine rNil ?_
    refine qSeq ?_
    refine wSeq ?_
    refine wRegion ?_
    refine rmI rfl rfl rfl rfl rfl ?_
    refine raddF rfl rfl rfl ?_ ?_ rfl rfl rfl ?_
    · omega
    · omega
    refine raI rfl rfl rfl rfl rfl ?_
    refine rNil ?_
    refine qSeq ?_
    refine wSeq ?_
    refine wRegion ?_
    refine rmV rfl rfl rfl rfl rfl ?_
    refine rmI rfl rfl rfl rfl rfl ?_
    refine rmI rfl rfl rfl rfl rfl ?_
    (apply rixv rfl rfl rfl rfl; (first | ((simp (disch := omega) only [↓app0, ↓appC, ↓updS, ↓updN, ↓hpS, ↓hpN]) <;> first | rfl | assumption) | assumption | rfl); rfl; (first | omega | assumption | (focus (simp; omega))); (first | omega | assumption | (focus (simp; omega))); rfl; rfl; rfl)
    refine rfa (off := 1) (s := 1) (r := false) rfl rfl rfl (Nat.succ_ne_zero _) rfl rfl rfl ?_
    (apply rst (u := .int _ _) rfl rfl rfl; (first | ((simp (disch := omega) only [↓app0, ↓appC, ↓updS, ↓updN, ↓hpS, ↓hpN]) <;> first | rfl | assumption) | assumption | rfl); exact gsS (by simp only [List.length_set, List.length_map]; rw [hml]; omega); rfl; rfl; rfl; rfl; (exact Nat.le_of_ble_eq_true rfl); rfl; rfl; rfl)
    refine rNil ?_
    refine qSeq ?_
    refine wSeq ?_
    refine wRegion ?_
    refine rmI rfl rfl rfl rfl rfl ?_
    refine raddF rfl rfl rfl ?_ ?_ rfl rfl rfl ?_
    · omega
    · omega
    refine raI rfl rfl rfl rfl rfl ?_
    refine rNil ?_
    refine qSeq ?_
    refine wSeq ?_
    refine wRegion ?_
    refine rmV rfl rfl rfl rfl rfl ?_
    refine rmI rfl rfl rfl rfl rfl ?_
    refine rmI rfl rfl rfl rfl rfl ?_
    (apply rixv rfl rfl rfl rfl; (first | ((simp (disch := omega) only [↓app0, ↓appC, ↓updS, ↓updN, ↓hpS, ↓hpN]) <;> first | rfl | assumption) | assumption | rfl); rfl; (first | omega | assumption | (focus (simp; omega))); (first | omega | assumption | (focus (simp; omega))); rfl; rfl; rfl)
    refine rfa (off := 2) (s := 4) (r := true) rfl rfl rfl (Nat.succ_ne_zero _) rfl rfl rfl ?_
    refine rfa (off := 0) (s := 1) (r := false) rfl rfl rfl (Nat.succ_ne_zero _) rfl rfl rfl ?_
    (apply rst (u := .int _ _) rfl rfl rfl; (first | ((simp (disch := omega) only [↓app0, ↓appC, ↓updS, ↓updN, ↓hpS, ↓hpN]) <;> first | rfl | assumption) | assumption | rfl); exact gsS (by simp only [List.length_set, List.length_map]; rw [hml]; omega); rfl; rfl; rfl; rfl; (exact Nat.le_of_ble_eq_true rfl); rfl; rfl; rfl)
    refine rNil ?_
    refine qSeq ?_
    refine wSeq ?_
    refine wRegion ?_
    refine rmI rfl rfl rfl rfl rfl ?_
    refine raddF rfl rfl rfl ?_ ?_ rfl rfl rfl ?_
    · omega
    · omega
    refine raI rfl rfl rfl rfl rfl ?_
    refine rNil ?_
    refine qSeq ?_
    refine wSeq ?_
    refine wRegion ?_
    refine rmV rfl rfl rfl rfl rfl ?_
    refine rmI rfl rfl rfl rfl rfl ?_
    refine rmI rfl rfl rfl rfl rfl ?_
    (apply rixv rfl rfl rfl rfl; (first | ((simp (disch := omega) only [↓app0, ↓appC, ↓updS, ↓updN, ↓hpS, ↓hpN]) <;> first | rfl | assumption) | assumption | rfl); rfl; (first | omega | assumption | (focus (simp; omega))); (first | omega | assumption | (focus (simp; omega))); rfl; rfl; rfl)
    refine rfa (off := 2) (s := 4) (r := true) rfl rfl rfl (Nat.succ_ne_zero _) rfl rfl rfl ?_
    refine rfa (off := 1) (s := 1) (r := false) rfl rfl rfl (Nat.succ_ne_zero _) rfl rfl rfl ?_
    (apply rst (u := .int _ _) rfl rfl rfl; (first | ((simp (disch := omega) only [↓app0, ↓appC, ↓updS, ↓updN, ↓hpS, ↓hpN]) <;> first | rfl | assumption) | assumption | rfl); exact gsS (by simp only [List.length_set, List.length_map]; rw [hml]; omega); rfl; rfl; rfl; rfl; (exact Nat.le_of_ble_eq_true rfl); rfl; rfl; rfl)
    refine rNil ?_
    refine qSeq ?_
    refine wSeq ?_
    refine wRegion ?_
    refine rmI rfl rfl rfl rfl rfl ?_
    refine raddF rfl rfl rfl ?_ ?_ rfl rfl rfl ?_
    · omega
    · omega
    refine raI rfl rfl rfl rfl rfl ?_
    refine rNil ?_
    refine qSeq ?_
    refine wSeq ?_
    refine wRegion ?_
    refine rmV rfl rfl rfl rfl rfl ?_
    refine rmI rfl rfl rfl rfl rfl ?_
    refine rmI rfl rfl rfl rfl rfl ?_
    (apply rixv rfl rfl rfl rfl; (first | ((simp (disch := omega) only [↓app0, ↓appC, ↓updS, ↓updN, ↓hpS, ↓hpN]) <;> first | rfl | assumption) | assumption | rfl); rfl; (first | omega | assumption | (focus (simp; omega))); (first | omega | assumption | (focus (simp; omega))); rfl; rfl; rfl)
    refine rfa (off := 2) (s := 4) (r := true) rfl rfl rfl (Nat.succ_ne_zero _) rfl rfl rfl ?_
    refine rfa (off := 2) (s := 1) (r := false) rfl rfl rfl (Nat.succ_ne_zero _) rfl rfl rfl ?_
    (apply rst (u := .int _ _) rfl rfl rfl; (first | ((simp (disch := omega) only [↓app0, ↓appC, ↓updS, ↓updN, ↓hpS, ↓hpN]) <;> first | rfl | assumption) | assumption | rfl); exact gsS (by simp only [List.length_set, List.length_map]; rw [hml]; omega); rfl; rfl; rfl; rfl; (exact Nat.le_of_ble_eq_true rfl); rfl; rfl; rfl)
    refine rNil ?_
    refine qSeq ?_
    refine wSeq ?_
    refine wRegion ?_
    refine rmI rfl rfl rfl rfl rfl ?_
    refine raddF rfl rfl rfl ?_ ?_ rfl rfl rfl ?_
    · omega
    · omega
    refine raI rfl rfl rfl rfl rfl ?_
    refine rNil ?_
    refine qSeq ?_
    refine wSeq ?_
    refine wRegion ?_
    refine rmV rfl rfl rfl rfl rfl ?_
    refine rmI rfl rfl rfl rfl rfl ?_
    refine rmI rfl rfl rfl rfl rfl ?_
    (apply rixv rfl rfl rfl rfl; (first | ((simp (disch := omega) only [↓app0, ↓appC, ↓updS, ↓updN, ↓hpS, ↓hpN]) <;> first | rfl | assumption) | assumption | rfl); rfl; (first | omega | assumption | (focus (simp; omega))); (first | omega | assumption | (focus (simp; omega))); rfl; rfl; rfl)
    refine rfa (off := 2) (s := 4) (r := true) rfl rfl rfl (Nat.succ_ne_zero _) rfl rfl rfl ?_
    refine rfa (off := 3) (s := 1) (r := false) rfl rfl rfl (Nat.succ_ne_zero _) rfl rfl rfl ?_
    (apply rst (u := .int _ _) rfl rfl rfl; (first | ((simp (disch := omega) only [↓app0, ↓appC, ↓updS, ↓updN, ↓hpS, ↓hpN]) <;> first | rfl | assumption) | assumption | rfl); exact gsS (by simp only [List.length_set, List.length_map]; rw [hml]; omega); rfl; rfl; rfl; rfl; (exact Nat.le_of_ble_eq_true rfl); rfl; rfl; rfl)
    refine rNil ?_
    refine qSeq ?_
    refine wRegion ?_
    refine rmI rfl rfl rfl rfl rfl ?_
    refine raddF rfl rfl rfl ?_ ?_ rfl rfl rfl ?_
    · omega
    · omega
    refine raI rfl rfl rfl rfl rfl ?_
    refine rNil ?_
    refine qBlock ?_
    refine qSeq ?_
    refine wRegion ?_
    refine rmI rfl rfl rfl rfl rfl ?_
    refine raddF rfl rfl rfl ?_ ?_ rfl rfl rfl ?_
    · omega
    · omega
    refine raI rfl rfl rfl rfl rfl ?_
    refine rNil ?_
    refine qLoop ?_
    exact wlH (ih (i + 1, y + 1 + 1 + 1 + 1 + 1 + 1) ⟨by dsimp only; omega, by dsimp only; omega⟩ (by dsimp only; omega)) (by (repeat first | exact LE.nil _ | refine LE.unk _ _ ?_ | refine LE.eq _ _ _ rfl ?_)) (by
      dsimp only
      refine lessApp (n := n) hz (fun jx hj => ?_) (fun jx hl hn => ?_)
      · simp only [List.map_cons, List.map_nil, List.mem_cons, List.not_mem_nil, or_false] at hj
        rcases hj with rfl <;> (simp (disch := omega) only [↓app0, ↓appC, ↓updS, ↓updN, ↓hpS, ↓hpN]) <;> first | rfl | assumption | (refine congrArg (fun z => some (Blk.mk z 6 115)) ?_; simp only [List.set_set]; exact mix_set Sn.V Sn0 hMl (by omega) (by rw [hx (by omega)]; rfl))
      · simp only [List.map_cons, List.map_nil, List.mem_cons, List.not_mem_nil, or_false, not_or] at hn
        (simp (disch := omega) only [↓app0, ↓appC, ↓updS, ↓updN, ↓hpS, ↓hpN])) (Nat.le_refl _)
  · refine rNil ?_
    refine qSeq ?_
    refine wF rfl ?_
    refine wExit ?_
    refine qSeqX ?_
    refine qLoopX ?_
    refine qBlockX ?_
    refine qSeq ?_
    refine wSeq ?_
    refine wRegion ?_
    refine rmI rfl rfl rfl rfl rfl ?_
    refine raI rfl rfl rfl rfl rfl ?_
    refine rNil ?_
    refine qSeq ?_
    refine wRet ?_
    obtain rfl : i = L.length := by omega
    exact finO rfl (congrArg (V.int .i64) hI.2) (leWr (by
      intro j hj
      simp only [List.map_cons, List.map_nil, List.mem_cons, List.not_mem_nil, or_false] at hj
      rcases hj with rfl <;> (simp (disch := omega) only [↓app0, ↓appC, ↓updS, ↓updN, ↓hpS, ↓hpN]) <;> first | rfl | (exact congrArg (fun z => some (Blk.mk z 6 115)) (congrArg (List.map Sn.V) (mix_full hMl)))) (fun j hj hn => by
      simp only [List.map_cons, List.map_nil, List.mem_cons, List.not_mem_nil, or_false, not_or] at hn
      (simp (disch := omega) only [↓app0, ↓appC, ↓updS, ↓updN, ↓hpS, ↓hpN]) <;> rfl)) (Nat.le_refl _)
theorem s56 (nn : Bool) (k : Int) (m : Nat) (hk : 0 ≤ k ∧ k ≤ 1125899906842624) (hm : m ≤ 1048577) : Pure En 56 [.one (.sl nn ((MW k m).map wtT)), .one (.int .i64 k)] [.one (.int .i64 (k + 2 * (m : Int)))] := by
  have hl : ((MW k m).map wtT).length = m := by rw [List.length_map, MW_len]
  refine Pure.of_wp Try.func56 rfl (Nat.le_of_ble_eq_true rfl) ?_
  refine wSeq ?_
  refine wRegion ?_
  refine raI rfl rfl rfl rfl rfl ?_
  refine rNil ?_
  refine qSeq ?_
  refine wSeq ?_
  refine wSeq ?_
  refine wRegion ?_
  refine raI rfl rfl rfl rfl rfl ?_
  refine rNil ?_
  refine qSeq ?_
  refine wBlock ?_
  refine wLoop ?_
  refine loopGo0 (fun (a : Nat × Int) => [.sl false nn ((MW k m).map wtT), .int .i64 a.2, .unk, .unk, .unk, .int .i64 a.1]) (fun (a : Nat × Int) => a.1 ≤ m ∧ a.2 = k + 2 * (a.1 : Int)) (fun (a : Nat × Int) => m - a.1) (0, k) ?_ ?_ ?_
  · exact ⟨Nat.zero_le _, by dsimp only; omega⟩
  · (repeat first | exact LE.nil _ | refine LE.unk _ _ ?_ | refine LE.eq _ _ _ rfl ?_)
  intro ⟨i, y⟩ hI ih
  dsimp only at hI ⊢
  have hx : i < m → ((MW k m).map wtT)[i]? = some (wtT (mWt y)) := fun h => by
    rw [getMap wtT (0, 0) (show i < (MW k m).length by rw [MW_len]; exact h), MW_get h, hI.2]
  refine lStep ?_
  refine wSeq ?_
  refine wSeq ?_
  refine wRegion ?_
  refine rmI rfl rfl rfl rfl rfl ?_
  refine rmL rfl rfl rfl rfl rfl ?_
  refine rll rfl rfl rfl rfl rfl rfl ?_
  refine rlt rfl rfl rfl rfl rfl rfl ?_ ?_ <;> intro h2_3
  · refine rNil ?_
    refine qSeq ?_
    refine wT rfl ?_
    refine wSkip ?_
    refine qSeq ?_
    refine wSeq ?_
    refine wBlock ?_
    refine wSeq ?_
    refine wSeq ?_
    refine wRegion ?_
    refine rmL rfl rfl rfl rfl rfl ?_
    refine rmI rfl rfl rfl rfl rfl ?_
    (apply rixl rfl rfl rfl rfl; (first | omega | assumption | (focus (simp; omega))); (first | rfl | assumption | exact hx (by omega)); rfl; rfl; rfl; rfl)
    refine rfai (off := 0) (s := 1) (r := false) rfl rfl rfl (Nat.succ_ne_zero _) rfl rfl rfl rfl ?_
    refine rlic (v := .int _ _) rfl rfl rfl rfl rfl rfl rfl rfl ?_
    refine rmI rfl rfl rfl rfl rfl ?_
    refine rne rfl rfl rfl rfl rfl rfl (fun h => absurd h ((fun hh => hh rfl))) ?_
    intro h4_6
    refine rNil ?_
    refine qSeq ?_
    refine wF rfl ?_
    refine wSkip ?_
    refine qSeq ?_
    refine wSeq ?_
    refine wRegion ?_
    refine rmI rfl rfl rfl rfl rfl ?_
    refine raddF rfl rfl rfl ?_ ?_ rfl rfl rfl ?_
    · omega
    · omega
    refine raI rfl rfl rfl rfl rfl ?_
    refine rNil ?_
    refine qSeq ?_
    refine wSeq ?_
    refine wSeq ?_
    refine wRegion ?_
    refine rmL rfl rfl rfl rfl rfl ?_
    refine rmI rfl rfl rfl rfl rfl ?_
    (apply rixl rfl rfl rfl rfl; (first | omega | assumption | (focus (simp; omega))); (first | rfl | assumption | exact hx (by omega)); rfl; rfl; rfl; rfl)
    refine rfai (off := 1) (s := 1) (r := false) rfl rfl rfl (Nat.succ_ne_zero _) rfl rfl rfl rfl ?_
    refine rlic (v := .int _ _) rfl rfl rfl rfl rfl rfl rfl rfl ?_
    refine rmI rfl rfl rfl rfl rfl ?_
    refine rne rfl rfl rfl rfl rfl rfl (fun h => absurd h ((fun hh => hh rfl))) ?_
    intro h7_6
    refine rNil ?_
    refine qSeq ?_
    refine wF rfl ?_
    refine wSkip ?_
    refine qSeq ?_
    refine wRegion ?_
    refine rmI rfl rfl rfl rfl rfl ?_
    refine raddF rfl rfl rfl ?_ ?_ rfl rfl rfl ?_
    · omega
    · omega
    refine raI rfl rfl rfl rfl rfl ?_
    refine rNil ?_
    refine qBlock ?_
    refine qSeq ?_
    refine wRegion ?_
    refine rmI rfl rfl rfl rfl rfl ?_
    refine raddF rfl rfl rfl ?_ ?_ rfl rfl rfl ?_
    · omega
    · omega
    refine raI rfl rfl rfl rfl rfl ?_
    refine rNil ?_
    refine qLoop ?_
    exact wlN (ih (i + 1, y + 1 + 1) ⟨by dsimp only; omega, by dsimp only; omega⟩ (by dsimp only; omega)) (by (repeat first | exact LE.nil _ | refine LE.unk _ _ ?_ | refine LE.eq _ _ _ rfl ?_))
  · refine rNil ?_
    refine qSeq ?_
    refine wF rfl ?_
    refine wExit ?_
    refine qSeqX ?_
    refine qLoopX ?_
    refine qBlockX ?_
    refine qSeq ?_
    refine wSeq ?_
    refine wRegion ?_
    refine rmI rfl rfl rfl rfl rfl ?_
    refine raI rfl rfl rfl rfl rfl ?_
    refine rNil ?_
    refine qSeq ?_
    refine wRet ?_
    obtain rfl : i = m := by omega
    exact finE rfl rfl (by rw [hI.2])
end Go.Proofs.Ytknnniaoboaghaa
