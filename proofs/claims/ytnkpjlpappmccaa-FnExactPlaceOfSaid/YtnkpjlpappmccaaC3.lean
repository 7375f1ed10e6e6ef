import Derived.Test.YtnkpjlpappmccaaC2
namespace Go.Proofs.Ytnkpjlpappmccaa
open Go.V
set_option linter.unusedVariables false
set_option maxRecDepth 20000

/-- A number of k bytes, the highest first. -/
def be (s : ByteArray) (o : Nat) : Nat → Int
  | 0 => 0
  | k + 1 => be s o k * 256 + bt s (k + o)
theorem be_0 (s : ByteArray) (o k : Nat) : 0 ≤ be s o k := by
  induction k with
  | zero => exact Int.le_refl _
  | succ k ih => unfold be; have := bt_0 s (k + o); omega
theorem be_3 (s : ByteArray) (o k : Nat) (h : k ≤ 3) : be s o k ≤ 16777215 := by
  match k, h with
  | 0, _ => simp [be]
  | 1, _ => simp only [be]; have := bt_255 s (0 + o); omega
  | 2, _ => simp only [be]; have := bt_255 s (0 + o); have := bt_255 s (1 + o); omega
  | 3, _ => simp only [be]; have := bt_255 s (0 + o); have := bt_255 s (1 + o); have := bt_255 s (2 + o); omega

theorem p54 (s : ByteArray) (h : s.size ≤ 4) : Pure En 54 [.one (.str s)] [.one (.int .i64 (be s 0 s.size))] := by
  refine Pure.of_wp Try.func54 rfl (Nat.le_of_ble_eq_true rfl) ?_
  refine wSeq ?_
  refine wRegion ?_
  refine raI rfl rfl rfl rfl rfl ?_
  refine rNil ?_
  refine qSeq ?_
  refine wSeq ?_
  refine wRegion ?_
  refine raI rfl rfl rfl rfl rfl ?_
  refine rNil ?_
  refine qSeq ?_
  refine wSeq ?_
  refine wSeq ?_
  refine wRegion ?_
  refine raI rfl rfl rfl rfl rfl ?_
  refine rNil ?_
  refine qSeq ?_
  refine wBlock ?_
  refine wLoop ?_
  refine loopGo0 (fun (i : Nat) => [.str s, .unk, .unk, .int .i64 (be s 0 i), .int .i64 i]) (fun (i : Nat) => i ≤ s.size) (fun (i : Nat) => s.size - i) 0 ?_ ?_ ?_
  · exact Nat.zero_le _
  · (repeat first | exact LE.nil _ | refine LE.unk _ _ ?_ | refine LE.eq _ _ _ rfl ?_)
  intro i hI ih
  have b1 := be_0 s 0 i
  have b2 := be_3 s 0 i
  have b3 := bt_0 s i
  have b4 := bt_255 s i
  have b5 : (i : Int).toNat = i := rfl
  refine lStep ?_
  refine wSeq ?_
  refine wSeq ?_
  refine wRegion ?_
  refine rmI rfl rfl rfl rfl rfl ?_
  refine rmS rfl rfl rfl rfl rfl ?_
  refine rls rfl rfl rfl rfl rfl rfl ?_
  refine rlt rfl rfl rfl rfl rfl rfl ?_ ?_ <;> intro h3_3
  · refine rNil ?_
    refine qSeq ?_
    refine wT rfl ?_
    refine wSkip ?_
    refine qSeq ?_
    refine wSeq ?_
    refine wBlock ?_
    refine wRegion ?_
    refine rmI rfl rfl rfl rfl rfl ?_
    refine rmulF rfl rfl rfl ?_ ?_ rfl rfl rfl ?_
    · (first | omega | assumption | (focus (simp; omega)))
    · (first | omega | assumption | (focus (simp; omega)))
    refine rmS rfl rfl rfl rfl rfl ?_
    refine rmI rfl rfl rfl rfl rfl ?_
    refine rixs rfl rfl rfl rfl ?_ ?_ rfl rfl rfl ?_
    · (first | omega | assumption | (focus (simp; omega)))
    · (first | omega | assumption | (focus (simp; omega)))
    refine rcvF rfl rfl rfl rfl ?_ ?_ rfl rfl rfl ?_
    · (first | exact bt_ge _ _ | exact bt_le _ _ | omega)
    · (first | exact bt_ge _ _ | exact bt_le _ _ | omega)
    refine raddF rfl rfl rfl ?_ ?_ rfl rfl rfl ?_
    · (first | omega | assumption | (focus (simp; omega)))
    · (first | omega | assumption | (focus (simp; omega)))
    refine raI rfl rfl rfl rfl rfl ?_
    refine rNil ?_
    refine qBlock ?_
    refine qSeq ?_
    refine wRegion ?_
    refine rmI rfl rfl rfl rfl rfl ?_
    refine raddF rfl rfl rfl ?_ ?_ rfl rfl rfl ?_
    · (first | omega | assumption | (focus (simp; omega)))
    · (first | omega | assumption | (focus (simp; omega)))
    refine raI rfl rfl rfl rfl rfl ?_
    refine rNil ?_
    refine qLoop ?_
    exact wlN (ih (i + 1) (by omega) (by omega)) (by (repeat first | exact LE.nil _ | refine LE.unk _ _ ?_ | refine LE.eq _ _ _ rfl ?_))
  · refine rNil ?_
    refine qSeq ?_
    refine wF rfl ?_
    refine wExit ?_
    refine qSeqX ?_
    refine qLoopX ?_
    refine qBlockX ?_
    refine qSeq ?_
    refine wSeq ?_
    refine wRegion ?_
    refine rmI rfl rfl rfl rfl rfl ?_
    refine raI rfl rfl rfl rfl rfl ?_
    refine rNil ?_
    refine qSeq ?_
    refine wRet ?_
    obtain rfl : i = s.size := by omega
    exact fin rfl rfl

theorem size_extract (s : ByteArray) (a b : Nat) (h : b ≤ s.size) : (s.extract a b).size = b - a := by rw [ByteArray.size_extract]; omega
theorem bt_extract (s : ByteArray) (a b i : Nat) (h : b ≤ s.size) (hi : i < b - a) : bt (s.extract a b) i = bt s (a + i) := by
  rw [bt_eq (by rw [size_extract _ _ _ h]; exact hi), bt_eq (by omega), ByteArray.getElem_extract]
theorem be_extract (s : ByteArray) (a b o k : Nat) (h : b ≤ s.size) (hk : o + k ≤ b - a) : be (s.extract a b) o k = be s (a + o) k := by
  induction k with
  | zero => rfl
  | succ k ih =>
    simp only [be]
    rw [ih (by omega), bt_extract _ _ _ _ h (by omega), show a + (k + o) = k + (a + o) by omega]

theorem p54x (t : ByteArray) (a b : Nat) (h1 : a ≤ b) (h2 : b ≤ t.size) (h3 : b - a ≤ 4) : Pure En 54 [.one (.str (t.extract a b))] [.one (.int .i64 (be t a (b - a)))] := by
  have h := p54 (t.extract a b) (by rw [size_extract _ _ _ h2]; exact h3)
  rw [size_extract _ _ _ h2, be_extract _ _ _ _ _ h2 (by omega)] at h
  exact h

/-- A request's head, and how long it is. -/
def hasRq (t : ByteArray) : Prop := 7 ≤ t.size ∧ t.size = 7 + bt t 6
def rqOf (t : ByteArray) : Rq := ⟨bt t 0, be t 1 2, bt t 3, be t 4 2, t.extract 7 t.size⟩
def Rq0 : Rq := ⟨0, 0, 0, 0, ⟨#[]⟩⟩

theorem p55a (t : ByteArray) (h : hasRq t) : Pure En 55 [.one (.str t)] [.agg (rqOf t).T, .one (.bool (decide (rqOf t).OK))] := by
  obtain ⟨h1, h2⟩ := h
  have b1 := bt_0 t 6
  have b2 := bt_255 t 6
  refine Pure.of_wp Try.func55 rfl (Nat.le_of_ble_eq_true rfl) ?_
  refine wSeq ?_
  refine wRegion ?_
  refine ral rfl rfl rfl rfl rfl rfl ?_
  refine raB rfl rfl rfl rfl rfl ?_
  refine rNil ?_
  refine qSeq ?_
  refine wSeq ?_
  refine wSeq ?_
  refine wRegion ?_
  refine rmS rfl rfl rfl rfl rfl ?_
  refine rls rfl rfl rfl rfl rfl rfl ?_
  refine rlt rfl rfl rfl rfl rfl rfl ?_ ?_ <;> intro h1_2
  · refine rmB rfl rfl rfl rfl rfl ?_
    refine rSkip rfl rfl rfl ?_
    refine rSkip rfl rfl rfl ?_
    refine rSkip rfl rfl rfl ?_
    refine rSkip rfl rfl rfl ?_
    refine rSkip rfl rfl rfl ?_
    refine rSkip rfl rfl rfl ?_
    refine rSkip rfl rfl rfl ?_
    refine rpk (e := true) rfl rfl rfl rfl rfl rfl ?_
    refine rNil ?_
    refine qSeq ?_
    refine wT rfl ?_
    refine wSeq ?_
    refine wRegion ?_
    refine rbd (cs := [.int _ _, .int _ _, .int _ _, .int _ _, .str _]) rfl rfl rfl rfl rfl ?_
    refine rst rfl rfl rfl rfl rfl rfl rfl rfl rfl (Nat.le_of_ble_eq_true rfl) rfl rfl rfl ?_
    refine raB rfl rfl rfl rfl rfl ?_
    refine rNil ?_
    refine qSeq ?_
    refine wRet ?_
    refine qSeqR ?_
    first
      | (exfalso; omega)
      | (rw [decide_eq_true h4_2]; exact fin rfl rfl)
      | (rw [decide_eq_false h4_2]; exact fin rfl rfl)
  · refine rmB rfl rfl rfl rfl rfl ?_
    refine rmS rfl rfl rfl rfl rfl ?_
    refine rls rfl rfl rfl rfl rfl rfl ?_
    refine rmS rfl rfl rfl rfl rfl ?_
    refine rixsK (i := 6) rfl rfl rfl rfl ?_ ?_ rfl rfl rfl rfl ?_
    · (first | omega | assumption | (focus (simp; omega)))
    · (first | omega | assumption | (focus (simp; omega)))
    refine rcvF rfl rfl rfl rfl ?_ ?_ rfl rfl rfl ?_
    · (first | exact bt_ge _ _ | exact bt_le _ _ | omega)
    · (first | exact bt_ge _ _ | exact bt_le _ _ | omega)
    refine raddF rfl rfl rfl ?_ ?_ rfl rfl rfl ?_
    · (first | omega | assumption | (focus (simp; omega)))
    · (first | omega | assumption | (focus (simp; omega)))
    refine rne rfl rfl rfl rfl rfl rfl ?_ ?_ <;> intro h1_10
    · refine rpk (e := true) rfl rfl rfl rfl rfl rfl ?_
      refine rNil ?_
      refine qSeq ?_
      refine wT rfl ?_
      refine wSeq ?_
      refine wRegion ?_
      refine rbd (cs := [.int _ _, .int _ _, .int _ _, .int _ _, .str _]) rfl rfl rfl rfl rfl ?_
      refine rst rfl rfl rfl rfl rfl rfl rfl rfl rfl (Nat.le_of_ble_eq_true rfl) rfl rfl rfl ?_
      refine raB rfl rfl rfl rfl rfl ?_
      refine rNil ?_
      refine qSeq ?_
      refine wRet ?_
      refine qSeqR ?_
      first
        | (exfalso; omega)
        | (rw [decide_eq_true h4_2]; exact fin rfl rfl)
        | (rw [decide_eq_false h4_2]; exact fin rfl rfl)
    · refine rpk (e := false) rfl rfl rfl rfl rfl rfl ?_
      refine rNil ?_
      refine qSeq ?_
      refine wF rfl ?_
      refine wSkip ?_
      refine qSeq ?_
      refine wSeq ?_
      refine wDraw [0, 1, 3, 0, 8, 24, 0, 64, 192, 0, 512, 1592, 0, 4096, 16383, 0, 65535] rfl (by decide +kernel) ?_
      refine dmS rfl rfl rfl rfl rfl ?_
      refine dixsK (i := 0) rfl rfl rfl rfl ?_ ?_ rfl rfl rfl rfl ?_
      · (first | omega | assumption | (focus (simp; omega)))
      · (first | omega | assumption | (focus (simp; omega)))
      refine dcvF rfl rfl rfl rfl ?_ ?_ rfl rfl rfl ?_
      · (first | exact bt_ge _ _ | exact bt_le _ _ | omega)
      · (first | exact bt_ge _ _ | exact bt_le _ _ | omega)
      refine dmS rfl rfl rfl rfl rfl ?_
      refine dsls rfl rfl rfl rfl rfl ?_ ?_ ?_ rfl rfl rfl ?_
      · (first | omega | assumption | (focus (simp; omega)))
      · (first | omega | assumption | (focus (simp; omega)))
      · (first | omega | assumption | (focus (simp; omega)))
      refine dcl (p54x t _ _ ?_ ?_ ?_) rfl rfl rfl rfl rfl rfl ?_
      · (first | omega | (simp; done) | (simp; omega))
      · (first | omega | (simp; done) | (simp; omega))
      · (first | omega | (simp; done) | (simp; omega))
      refine dmS rfl rfl rfl rfl rfl ?_
      refine dixsK (i := 3) rfl rfl rfl rfl ?_ ?_ rfl rfl rfl rfl ?_
      · (first | omega | assumption | (focus (simp; omega)))
      · (first | omega | assumption | (focus (simp; omega)))
      refine dcvF rfl rfl rfl rfl ?_ ?_ rfl rfl rfl ?_
      · (first | exact bt_ge _ _ | exact bt_le _ _ | omega)
      · (first | exact bt_ge _ _ | exact bt_le _ _ | omega)
      refine dmS rfl rfl rfl rfl rfl ?_
      refine dsls rfl rfl rfl rfl rfl ?_ ?_ ?_ rfl rfl rfl ?_
      · (first | omega | assumption | (focus (simp; omega)))
      · (first | omega | assumption | (focus (simp; omega)))
      · (first | omega | assumption | (focus (simp; omega)))
      refine dcl (p54x t _ _ ?_ ?_ ?_) rfl rfl rfl rfl rfl rfl ?_
      · (first | omega | (simp; done) | (simp; omega))
      · (first | omega | (simp; done) | (simp; omega))
      · (first | omega | (simp; done) | (simp; omega))
      refine dmS rfl rfl rfl rfl rfl ?_
      refine dsls rfl rfl rfl rfl rfl ?_ ?_ ?_ rfl rfl rfl ?_
      · (first | omega | assumption | (focus (simp; omega)))
      · (first | omega | assumption | (focus (simp; omega)))
      · (first | omega | assumption | (focus (simp; omega)))
      refine dbd (cs := [.int _ _, .int _ _, .int _ _, .int _ _, .str _]) rfl rfl rfl rfl rfl ?_
      refine dal rfl rfl rfl rfl rfl rfl ?_
      refine dst rfl rfl rfl rfl rfl rfl rfl rfl rfl (Nat.le_of_ble_eq_true rfl) rfl rfl rfl ?_
      refine dNilR 17 [3, 3, 0, 0, 0, 0, 0, 0, 0, 0, 0, 0, 0, 0, 0, 0, 0] [] rfl rfl (by decide +kernel) trivial ?_
      refine qSeq ?_
      refine wSeq ?_
      refine wDraw [0, 0, 2, 7, 15] rfl (by decide +kernel) ?_
      refine dlr (vs := [.int _ _, .int _ _, .int _ _, .int _ _, .str _]) rfl rfl rfl rfl rfl (Nat.le_of_ble_eq_true rfl) rfl rfl rfl rfl ?_
      refine dlr (vs := [.int _ _, .int _ _, .int _ _, .int _ _, .str _]) rfl rfl rfl rfl rfl (Nat.le_of_ble_eq_true rfl) rfl rfl rfl rfl ?_
      refine dclP (p73 (rqOf t)) rfl rfl rfl rfl rfl rfl ?_ ?_ <;> intro h4_2
      · refine dst rfl rfl rfl rfl rfl rfl rfl rfl rfl (Nat.le_of_ble_eq_true rfl) rfl rfl rfl ?_
        refine daB rfl rfl rfl rfl rfl ?_
        refine dNilR 5 [0, 3, 0, 1, 1] [] rfl rfl (by decide +kernel) trivial ?_
        refine qSeq ?_
        refine wRet ?_
        first
          | (exfalso; omega)
          | (rw [decide_eq_true h4_2]; exact fin rfl rfl)
          | (rw [decide_eq_false h4_2]; exact fin rfl rfl)
      · refine dst rfl rfl rfl rfl rfl rfl rfl rfl rfl (Nat.le_of_ble_eq_true rfl) rfl rfl rfl ?_
        refine daB rfl rfl rfl rfl rfl ?_
        refine dNilR 5 [0, 3, 0, 1, 1] [] rfl rfl (by decide +kernel) trivial ?_
        refine qSeq ?_
        refine wRet ?_
        first
          | (exfalso; omega)
          | (rw [decide_eq_true h4_2]; exact fin rfl rfl)
          | (rw [decide_eq_false h4_2]; exact fin rfl rfl)
theorem p55b (t : ByteArray) (h : ¬ hasRq t) : Pure En 55 [.one (.str t)] [.agg Rq0.T, .one (.bool false)] := by
  have b1 := bt_0 t 6
  have b2 := bt_255 t 6
  refine Pure.of_wp Try.func55 rfl (Nat.le_of_ble_eq_true rfl) ?_
  refine wSeq ?_
  refine wRegion ?_
  refine ral rfl rfl rfl rfl rfl rfl ?_
  refine raB rfl rfl rfl rfl rfl ?_
  refine rNil ?_
  refine qSeq ?_
  refine wSeq ?_
  refine wSeq ?_
  refine wRegion ?_
  refine rmS rfl rfl rfl rfl rfl ?_
  refine rls rfl rfl rfl rfl rfl rfl ?_
  refine rlt rfl rfl rfl rfl rfl rfl ?_ ?_ <;> intro h1_2
  · refine rmB rfl rfl rfl rfl rfl ?_
    refine rSkip rfl rfl rfl ?_
    refine rSkip rfl rfl rfl ?_
    refine rSkip rfl rfl rfl ?_
    refine rSkip rfl rfl rfl ?_
    refine rSkip rfl rfl rfl ?_
    refine rSkip rfl rfl rfl ?_
    refine rSkip rfl rfl rfl ?_
    refine rpk (e := true) rfl rfl rfl rfl rfl rfl ?_
    refine rNil ?_
    refine qSeq ?_
    refine wT rfl ?_
    refine wSeq ?_
    refine wRegion ?_
    refine rbd (cs := [.int _ _, .int _ _, .int _ _, .int _ _, .str _]) rfl rfl rfl rfl rfl ?_
    refine rst rfl rfl rfl rfl rfl rfl rfl rfl rfl (Nat.le_of_ble_eq_true rfl) rfl rfl rfl ?_
    refine raB rfl rfl rfl rfl rfl ?_
    refine rNil ?_
    refine qSeq ?_
    refine wRet ?_
    refine qSeqR ?_
    first
      | exact fin rfl rfl
      | exact absurd ⟨by omega, by first | assumption | omega⟩ h
  · refine rmB rfl rfl rfl rfl rfl ?_
    refine rmS rfl rfl rfl rfl rfl ?_
    refine rls rfl rfl rfl rfl rfl rfl ?_
    refine rmS rfl rfl rfl rfl rfl ?_
    refine rixsK (i := 6) rfl rfl rfl rfl ?_ ?_ rfl rfl rfl rfl ?_
    · (first | omega | assumption | (focus (simp; omega)))
    · (first | omega | assumption | (focus (simp; omega)))
    refine rcvF rfl rfl rfl rfl ?_ ?_ rfl rfl rfl ?_
    · (first | exact bt_ge _ _ | exact bt_le _ _ | omega)
    · (first | exact bt_ge _ _ | exact bt_le _ _ | omega)
    refine raddF rfl rfl rfl ?_ ?_ rfl rfl rfl ?_
    · (first | omega | assumption | (focus (simp; omega)))
    · (first | omega | assumption | (focus (simp; omega)))
    refine rne rfl rfl rfl rfl rfl rfl ?_ ?_ <;> intro h1_10
    · refine rpk (e := true) rfl rfl rfl rfl rfl rfl ?_
      refine rNil ?_
      refine qSeq ?_
      refine wT rfl ?_
      refine wSeq ?_
      refine wRegion ?_
      refine rbd (cs := [.int _ _, .int _ _, .int _ _, .int _ _, .str _]) rfl rfl rfl rfl rfl ?_
      refine rst rfl rfl rfl rfl rfl rfl rfl rfl rfl (Nat.le_of_ble_eq_true rfl) rfl rfl rfl ?_
      refine raB rfl rfl rfl rfl rfl ?_
      refine rNil ?_
      refine qSeq ?_
      refine wRet ?_
      refine qSeqR ?_
      first
        | exact fin rfl rfl
        | exact absurd ⟨by omega, by first | assumption | omega⟩ h
    · refine rpk (e := false) rfl rfl rfl rfl rfl rfl ?_
      refine rNil ?_
      refine qSeq ?_
      refine wF rfl ?_
      refine wSkip ?_
      refine qSeq ?_
      refine wSeq ?_
      refine wDraw [0, 1, 3, 0, 8, 24, 0, 64, 192, 0, 512, 1592, 0, 4096, 16383, 0, 65535] rfl (by decide +kernel) ?_
      refine dmS rfl rfl rfl rfl rfl ?_
      refine dixsK (i := 0) rfl rfl rfl rfl ?_ ?_ rfl rfl rfl rfl ?_
      · (first | omega | assumption | (focus (simp; omega)))
      · (first | omega | assumption | (focus (simp; omega)))
      refine dcvF rfl rfl rfl rfl ?_ ?_ rfl rfl rfl ?_
      · (first | exact bt_ge _ _ | exact bt_le _ _ | omega)
      · (first | exact bt_ge _ _ | exact bt_le _ _ | omega)
      refine dmS rfl rfl rfl rfl rfl ?_
      refine dsls rfl rfl rfl rfl rfl ?_ ?_ ?_ rfl rfl rfl ?_
      · (first | omega | assumption | (focus (simp; omega)))
      · (first | omega | assumption | (focus (simp; omega)))
      · (first | omega | assumption | (focus (simp; omega)))
      refine dcl (p54x t _ _ ?_ ?_ ?_) rfl rfl rfl rfl rfl rfl ?_
      · (first | omega | (simp; done) | (simp; omega))
      · (first | omega | (simp; done) | (simp; omega))
      · (first | omega | (simp; done) | (simp; omega))
      refine dmS rfl rfl rfl rfl rfl ?_
      refine dixsK (i := 3) rfl rfl rfl rfl ?_ ?_ rfl rfl rfl rfl ?_
      · (first | omega | assumption | (focus (simp; omega)))
      · (first | omega | assumption | (focus (simp; omega)))
      refine dcvF rfl rfl rfl rfl ?_ ?_ rfl rfl rfl ?_
      · (first | exact bt_ge _ _ | exact bt_le _ _ | omega)
      · (first | exact bt_ge _ _ | exact bt_le _ _ | omega)
      refine dmS rfl rfl rfl rfl rfl ?_
      refine dsls rfl rfl rfl rfl rfl ?_ ?_ ?_ rfl rfl rfl ?_
      · (first | omega | assumption | (focus (simp; omega)))
      · (first | omega | assumption | (focus (simp; omega)))
      · (first | omega | assumption | (focus (simp; omega)))
      refine dcl (p54x t _ _ ?_ ?_ ?_) rfl rfl rfl rfl rfl rfl ?_
      · (first | omega | (simp; done) | (simp; omega))
      · (first | omega | (simp; done) | (simp; omega))
      · (first | omega | (simp; done) | (simp; omega))
      refine dmS rfl rfl rfl rfl rfl ?_
      refine dsls rfl rfl rfl rfl rfl ?_ ?_ ?_ rfl rfl rfl ?_
      · (first | omega | assumption | (focus (simp; omega)))
      · (first | omega | assumption | (focus (simp; omega)))
      · (first | omega | assumption | (focus (simp; omega)))
      refine dbd (cs := [.int _ _, .int _ _, .int _ _, .int _ _, .str _]) rfl rfl rfl rfl rfl ?_
      refine dal rfl rfl rfl rfl rfl rfl ?_
      refine dst rfl rfl rfl rfl rfl rfl rfl rfl rfl (Nat.le_of_ble_eq_true rfl) rfl rfl rfl ?_
      refine dNilR 17 [3, 3, 0, 0, 0, 0, 0, 0, 0, 0, 0, 0, 0, 0, 0, 0, 0] [] rfl rfl (by decide +kernel) trivial ?_
      refine qSeq ?_
      refine wSeq ?_
      refine wDraw [0, 0, 2, 7, 15] rfl (by decide +kernel) ?_
      refine dlr (vs := [.int _ _, .int _ _, .int _ _, .int _ _, .str _]) rfl rfl rfl rfl rfl (Nat.le_of_ble_eq_true rfl) rfl rfl rfl rfl ?_
      refine dlr (vs := [.int _ _, .int _ _, .int _ _, .int _ _, .str _]) rfl rfl rfl rfl rfl (Nat.le_of_ble_eq_true rfl) rfl rfl rfl rfl ?_
      refine dclP (p73 (rqOf t)) rfl rfl rfl rfl rfl rfl ?_ ?_ <;> intro h4_2
      · refine dst rfl rfl rfl rfl rfl rfl rfl rfl rfl (Nat.le_of_ble_eq_true rfl) rfl rfl rfl ?_
        refine daB rfl rfl rfl rfl rfl ?_
        refine dNilR 5 [0, 3, 0, 1, 1] [] rfl rfl (by decide +kernel) trivial ?_
        refine qSeq ?_
        refine wRet ?_
        first
          | exact fin rfl rfl
          | exact absurd ⟨by omega, by first | assumption | omega⟩ h
      · refine dst rfl rfl rfl rfl rfl rfl rfl rfl rfl (Nat.le_of_ble_eq_true rfl) rfl rfl rfl ?_
        refine daB rfl rfl rfl rfl rfl ?_
        refine dNilR 5 [0, 3, 0, 1, 1] [] rfl rfl (by decide +kernel) trivial ?_
        refine qSeq ?_
        refine wRet ?_
        first
          | exact fin rfl rfl
          | exact absurd ⟨by omega, by first | assumption | omega⟩ h
end Go.Proofs.Ytnkpjlpappmccaa
