import Derived.Test.YtcafccndgpopkaaDoorT4
namespace Go.Proofs.YtcafccndgpopkaaDoor
open Go.V
set_option linter.unusedVariables false
set_option linter.unusedSimpArgs false
set_option maxRecDepth 20000
set_option maxHeartbeats 4000000

theorem outS_size (q : W8) : ∀ i, (outS q i).size = 4 * i
  | 0 => by rw [outS_zero]; rfl
  | i + 1 => by rw [outS_succ, ByteArray.size_append, outS_size q i, strOf_size, numL_length]; omega
noncomputable def Hs (t : ByteArray) : ByteArray := sha t
theorem Hs_size (t : ByteArray) : (Hs t).size = 32 := outS_size _ 8
theorem q45 (t : ByteArray) (h : t.size ≤ 1000000) : Pure En 106 [.one (.str t)] [.one (.str (Hs t))] := e45 t h
noncomputable def Nm (x : Int) (m : Nat) : ByteArray := strOf (numL x m)
theorem Nm_size (x : Int) (m : Nat) : (Nm x m).size = m := by unfold Nm; rw [strOf_size, numL_length]
theorem q37 (x : Int) (m : Nat) (h : m ≤ 8) : Pure En 94 [.one (.int .i64 x), .one (.int .i64 m)] [.one (.str (Nm x m))] := e37 x m h
attribute [irreducible] Hs Nm
def lit1 : ByteArray := ⟨#[110, 111, 100, 101, 32, 107, 101, 121]⟩
def lit2 : ByteArray := ⟨#[114, 101, 112, 108, 121]⟩
noncomputable def mk (id : Int) (t : ByteArray) : ByteArray := (Hs (Hs (lit1 ++ Nm id 1) ++ t)).extract 0 8
theorem p36 (id : Int) (t : ByteArray) (ht : t.size ≤ 1000) : Pure En 93 [.one (.int .i64 id), .one (.str t)] [.one (.str (mk id t))] := by
  refine Pure.of_wp Tryd.func93 rfl (Nat.le_of_ble_eq_true rfl) ?_
  refine wSeq ?_
  refine wRegion ?_
  refine raS rfl rfl rfl rfl rfl ?_
  refine rNil ?_
  refine qSeq ?_
  refine wSeq ?_
  refine wRegion ?_
  refine rmI rfl rfl rfl rfl rfl ?_
  refine rcl (q37 id 1 (Nat.le_of_ble_eq_true rfl)) rfl rfl rfl rfl rfl rfl ?_
  refine rcat rfl rfl rfl ?_ rfl rfl rfl ?_
  · (first | omega | (rw [Nm_size]; show 8 + 1 ≤ _; omega) | (rw [Hs_size]; omega) | (show (8 : Int) ≤ ((Hs _).size : Int); rw [Hs_size]; omega))
  refine rcl (q45 (lit1 ++ Nm id 1) (by rw [ByteArray.size_append, Nm_size]; show 8 + 1 ≤ _; omega)) rfl rfl rfl rfl rfl rfl ?_
  refine rmS rfl rfl rfl rfl rfl ?_
  refine rcat rfl rfl rfl ?_ rfl rfl rfl ?_
  · (first | omega | (rw [Nm_size]; show 8 + 1 ≤ _; omega) | (rw [Hs_size]; omega) | (show (8 : Int) ≤ ((Hs _).size : Int); rw [Hs_size]; omega))
  refine rcl (q45 (Hs (lit1 ++ Nm id 1) ++ t) (by rw [ByteArray.size_append, Hs_size]; omega)) rfl rfl rfl rfl rfl rfl ?_
  refine rsls rfl rfl rfl rfl rfl ?_ ?_ ?_ rfl rfl rfl ?_
  · (first | omega | (rw [Nm_size]; show 8 + 1 ≤ _; omega) | (rw [Hs_size]; omega) | (show (8 : Int) ≤ ((Hs _).size : Int); rw [Hs_size]; omega))
  · (first | omega | (rw [Nm_size]; show 8 + 1 ≤ _; omega) | (rw [Hs_size]; omega) | (show (8 : Int) ≤ ((Hs _).size : Int); rw [Hs_size]; omega))
  · (first | omega | (rw [Nm_size]; show 8 + 1 ≤ _; omega) | (rw [Hs_size]; omega) | (show (8 : Int) ≤ ((Hs _).size : Int); rw [Hs_size]; omega))
  refine raS rfl rfl rfl rfl rfl ?_
  refine rNil ?_
  refine qSeq ?_
  refine wRet ?_
  exact fin rfl rfl

structure An where
  kd : Int
  tk : Int
  hd : Int
  ex : Int
def An.T (a : An) : List T := [.int .i64 a.kd, .int .i64 a.tk, .int .i64 a.hd, .int .i64 a.ex]
def An.OK (a : An) : Prop := (1 ≤ a.kd ∧ a.kd ≤ 8) ∧ (0 ≤ a.tk ∧ a.tk ≤ 1000000) ∧ (-1 ≤ a.hd ∧ a.hd ≤ 255) ∧ (0 ≤ a.ex ∧ a.ex ≤ 2000000000)
instance (a : An) : Decidable a.OK := by unfold An.OK; infer_instance
noncomputable def atx (a : An) : ByteArray := Nm a.kd 1 ++ Nm a.tk 3 ++ Nm (a.hd + 1) 2 ++ Nm a.ex 4
theorem atx_size (a : An) : (atx a).size = 10 := by simp only [atx, ByteArray.size_append, Nm_size]
theorem p38 (a : An) (h : a.OK) : Pure En 95 [.agg a.T] [.one (.str (atx a))] := by
  unfold An.OK at h
  refine Pure.of_wp Tryd.func95 rfl (Nat.le_of_ble_eq_true rfl) ?_
  refine wSeq ?_
  refine wRegion ?_
  refine rbx (u := .agg [.int _ _, .int _ _, .int _ _, .int _ _]) rfl rfl rfl rfl rfl rfl rfl ?_
  refine raS rfl rfl rfl rfl rfl ?_
  refine rNil ?_
  refine qSeq ?_
  refine wSeq ?_
  refine wDraw [0, 1, 3, 0, 8, 31, 63, 0, 128, 384, 959, 2047, 0, 4096, 14271, 32767, 65535] rfl (by decide +kernel) ?_
  refine dfa (off := 0) (s := 1) (r := false) rfl rfl rfl (Nat.succ_ne_zero _) rfl rfl rfl ?_
  refine dlc (v := .int _ _) rfl rfl rfl rfl rfl rfl rfl rfl rfl ?_
  refine dcl (q37 _ 1 (Nat.le_of_ble_eq_true rfl)) rfl rfl rfl rfl rfl rfl ?_
  refine dfa (off := 1) (s := 1) (r := false) rfl rfl rfl (Nat.succ_ne_zero _) rfl rfl rfl ?_
  refine dlc (v := .int _ _) rfl rfl rfl rfl rfl rfl rfl rfl rfl ?_
  refine dcl (q37 _ 3 (Nat.le_of_ble_eq_true rfl)) rfl rfl rfl rfl rfl rfl ?_
  refine dcat rfl rfl rfl ?_ rfl rfl rfl ?_
  · (simp only [ByteArray.size_append, Nm_size]; omega)
  refine dfa (off := 2) (s := 1) (r := false) rfl rfl rfl (Nat.succ_ne_zero _) rfl rfl rfl ?_
  refine dlc (v := .int _ _) rfl rfl rfl rfl rfl rfl rfl rfl rfl ?_
  refine daddF rfl rfl rfl ?_ ?_ rfl rfl rfl ?_
  · omega
  · omega
  refine dcl (q37 _ 2 (Nat.le_of_ble_eq_true rfl)) rfl rfl rfl rfl rfl rfl ?_
  refine dcat rfl rfl rfl ?_ rfl rfl rfl ?_
  · (simp only [ByteArray.size_append, Nm_size]; omega)
  refine dfa (off := 3) (s := 1) (r := false) rfl rfl rfl (Nat.succ_ne_zero _) rfl rfl rfl ?_
  refine dlc (v := .int _ _) rfl rfl rfl rfl rfl rfl rfl rfl rfl ?_
  refine dcl (q37 _ 4 (Nat.le_of_ble_eq_true rfl)) rfl rfl rfl rfl rfl rfl ?_
  refine dcat rfl rfl rfl ?_ rfl rfl rfl ?_
  · (simp only [ByteArray.size_append, Nm_size]; omega)
  refine daS rfl rfl rfl rfl rfl ?_
  refine dNilR 17 [0, 0, 0, 1, 0, 0, 0, 0, 1, 0, 0, 0, 1, 0, 0, 1, 0] [] rfl rfl (by decide +kernel) trivial ?_
  refine qSeq ?_
  refine wRet ?_
  exact fin rfl rfl

structure Rp where
  nd : Int
  cl : Int
  st : Int
  an : An
  mac : ByteArray
def Rp.T (r : Rp) : List T := [.int .i64 r.nd, .int .i64 r.cl, .int .i64 r.st, .int .i64 r.an.kd, .int .i64 r.an.tk, .int .i64 r.an.hd, .int .i64 r.an.ex, .str r.mac]
noncomputable def rm (r : Rp) : ByteArray := mk r.nd (lit2 ++ Nm r.cl 1 ++ Nm r.st 2 ++ atx r.an)
theorem p20 (r : Rp) (h : r.an.OK) : Pure En 83 [.agg r.T] [.one (.str (rm r))] := by
  refine Pure.of_wp Tryd.func83 rfl (Nat.le_of_ble_eq_true rfl) ?_
  refine wSeq ?_
  refine wRegion ?_
  refine rbx (u := .agg [.int _ _, .int _ _, .int _ _, .int _ _, .int _ _, .int _ _, .int _ _, .str _]) rfl rfl rfl rfl rfl rfl rfl ?_
  refine raS rfl rfl rfl rfl rfl ?_
  refine rNil ?_
  refine qSeq ?_
  refine wSeq ?_
  refine wDraw [0, 1, 0, 4, 12, 28, 0, 64, 220, 508, 0, 1024, 3548, 8188, 16383, 32767] rfl (by decide +kernel) ?_
  refine dfa (off := 0) (s := 1) (r := false) rfl rfl rfl (Nat.succ_ne_zero _) rfl rfl rfl ?_
  refine dlc (v := .int _ _) rfl rfl rfl rfl rfl rfl rfl rfl rfl ?_
  refine dfa (off := 1) (s := 1) (r := false) rfl rfl rfl (Nat.succ_ne_zero _) rfl rfl rfl ?_
  refine dlc (v := .int _ _) rfl rfl rfl rfl rfl rfl rfl rfl rfl ?_
  refine dcl (q37 _ 1 (Nat.le_of_ble_eq_true rfl)) rfl rfl rfl rfl rfl rfl ?_
  refine dcat rfl rfl rfl ?_ rfl rfl rfl ?_
  · (have e5 : (⟨#[114, 101, 112, 108, 121]⟩ : ByteArray).size = 5 := rfl; simp only [ByteArray.size_append, Nm_size, atx_size, e5]; omega)
  refine dfa (off := 2) (s := 1) (r := false) rfl rfl rfl (Nat.succ_ne_zero _) rfl rfl rfl ?_
  refine dlc (v := .int _ _) rfl rfl rfl rfl rfl rfl rfl rfl rfl ?_
  refine dcl (q37 _ 2 (Nat.le_of_ble_eq_true rfl)) rfl rfl rfl rfl rfl rfl ?_
  refine dcat rfl rfl rfl ?_ rfl rfl rfl ?_
  · (have e5 : (⟨#[114, 101, 112, 108, 121]⟩ : ByteArray).size = 5 := rfl; simp only [ByteArray.size_append, Nm_size, atx_size, e5]; omega)
  refine dfa (off := 3) (s := 4) (r := true) rfl rfl rfl (Nat.succ_ne_zero _) rfl rfl rfl ?_
  refine dlr (vs := [.int _ _, .int _ _, .int _ _, .int _ _]) rfl rfl rfl rfl rfl (Nat.le_of_ble_eq_true rfl) rfl rfl rfl rfl ?_
  refine dcl (p38 r.an h) rfl rfl rfl rfl rfl rfl ?_
  refine dcat rfl rfl rfl ?_ rfl rfl rfl ?_
  · (have e5 : (⟨#[114, 101, 112, 108, 121]⟩ : ByteArray).size = 5 := rfl; simp only [ByteArray.size_append, Nm_size, atx_size, e5]; omega)
  refine dcl (p36 r.nd (lit2 ++ Nm r.cl 1 ++ Nm r.st 2 ++ atx r.an) (by simp only [ByteArray.size_append, Nm_size, atx_size]; show 5 + _ + _ + _ ≤ _; omega)) rfl rfl rfl rfl rfl rfl ?_
  refine daS rfl rfl rfl rfl rfl ?_
  refine dNilR 16 [0, 0, 0, 0, 1, 0, 0, 0, 1, 0, 0, 0, 1, 0, 1, 0] [] rfl rfl (by decide +kernel) trivial ?_
  refine qSeq ?_
  refine wRet ?_
  exact fin rfl rfl

def nodes (n : Int) : Prop := n = 1 ∨ n = 4 ∨ n = 7
instance (n : Int) : Decidable (nodes n) := by unfold nodes; infer_instance
theorem p39 (n : Int) : ∃ c : Int × Int, (c.2 = 0 ↔ nodes n) ∧ Pure En 80 [.one (.int .i64 n)] [.one (.int .i64 c.1), .one (.int .i64 c.2)] := by
  refine Pure.of_wpX Tryd.func80 rfl (Nat.le_of_ble_eq_true rfl) ?_
  refine wSeq ?_
  refine wRegion ?_
  refine raI rfl rfl rfl rfl rfl ?_
  refine raI rfl rfl rfl rfl rfl ?_
  refine rNil ?_
  refine qSeq ?_
  refine wSeq ?_
  refine wSeq ?_
  refine wRegion ?_
  refine rmI rfl rfl rfl rfl rfl ?_
  refine rne rfl rfl rfl rfl rfl rfl ?_ ?_ <;> intro h1_1
  · refine rmB rfl rfl rfl rfl rfl ?_
    refine rmI rfl rfl rfl rfl rfl ?_
    refine rne rfl rfl rfl rfl rfl rfl ?_ ?_ <;> intro h1_4
    · refine rpk (e := true) rfl rfl rfl rfl rfl rfl ?_
      refine rmB rfl rfl rfl rfl rfl ?_
      refine rmI rfl rfl rfl rfl rfl ?_
      refine rne rfl rfl rfl rfl rfl rfl ?_ ?_ <;> intro h1_8
      · refine rpk (e := true) rfl rfl rfl rfl rfl rfl ?_
        refine rNil ?_
        refine qSeq ?_
        refine wT rfl ?_
        refine wSeq ?_
        refine wRegion ?_
        refine raI rfl rfl rfl rfl rfl ?_
        refine raI rfl rfl rfl rfl rfl ?_
        refine rNil ?_
        refine qSeq ?_
        refine wRet ?_
        refine qSeqR ?_
        exact ⟨(0, 4), by unfold nodes; dsimp only; omega, fin rfl rfl⟩
      · refine rpk (e := false) rfl rfl rfl rfl rfl rfl ?_
        refine rNil ?_
        refine qSeq ?_
        refine wF rfl ?_
        refine wSkip ?_
        refine qSeq ?_
        refine wSeq ?_
        refine wRegion ?_
        refine rmI rfl rfl rfl rfl rfl ?_
        refine rsubF rfl rfl rfl ?_ ?_ rfl rfl rfl ?_
        · omega
        · omega
        refine rquo rfl rfl rfl ?_ rfl rfl rfl ?_
        · (first | omega | assumption | (focus (simp; omega)))
        refine raI rfl rfl rfl rfl rfl ?_
        refine raI rfl rfl rfl rfl rfl ?_
        refine rNil ?_
        refine qSeq ?_
        refine wRet ?_
        exact ⟨(IntKind.i64.wrap ((n - 1).tdiv 3), 0), by unfold nodes; dsimp only; omega, fin rfl rfl⟩
    · refine rpk (e := false) rfl rfl rfl rfl rfl rfl ?_
      refine rmB rfl rfl rfl rfl rfl ?_
      refine rSkip rfl rfl rfl ?_
      refine rSkip rfl rfl rfl ?_
      refine rpk (e := false) rfl rfl rfl rfl rfl rfl ?_
      refine rNil ?_
      refine qSeq ?_
      refine wF rfl ?_
      refine wSkip ?_
      refine qSeq ?_
      refine wSeq ?_
      refine wRegion ?_
      refine rmI rfl rfl rfl rfl rfl ?_
      refine rsubF rfl rfl rfl ?_ ?_ rfl rfl rfl ?_
      · omega
      · omega
      refine rquo rfl rfl rfl ?_ rfl rfl rfl ?_
      · (first | omega | assumption | (focus (simp; omega)))
      refine raI rfl rfl rfl rfl rfl ?_
      refine raI rfl rfl rfl rfl rfl ?_
      refine rNil ?_
      refine qSeq ?_
      refine wRet ?_
      exact ⟨(IntKind.i64.wrap ((n - 1).tdiv 3), 0), by unfold nodes; dsimp only; omega, fin rfl rfl⟩
  · refine rmB rfl rfl rfl rfl rfl ?_
    refine rSkip rfl rfl rfl ?_
    refine rSkip rfl rfl rfl ?_
    refine rpk (e := false) rfl rfl rfl rfl rfl rfl ?_
    refine rmB rfl rfl rfl rfl rfl ?_
    refine rSkip rfl rfl rfl ?_
    refine rSkip rfl rfl rfl ?_
    refine rpk (e := false) rfl rfl rfl rfl rfl rfl ?_
    refine rNil ?_
    refine qSeq ?_
    refine wF rfl ?_
    refine wSkip ?_
    refine qSeq ?_
    refine wSeq ?_
    refine wRegion ?_
    refine rmI rfl rfl rfl rfl rfl ?_
    refine rsubF rfl rfl rfl ?_ ?_ rfl rfl rfl ?_
    · omega
    · omega
    refine rquo rfl rfl rfl ?_ rfl rfl rfl ?_
    · (first | omega | assumption | (focus (simp; omega)))
    refine raI rfl rfl rfl rfl rfl ?_
    refine raI rfl rfl rfl rfl rfl ?_
    refine rNil ?_
    refine qSeq ?_
    refine wRet ?_
    exact ⟨(IntKind.i64.wrap ((n - 1).tdiv 3), 0), by unfold nodes; dsimp only; omega, fin rfl rfl⟩
theorem p22 (n : Int) : Pure En 55 [.one (.int .i64 n)] [.one (.bool (decide (nodes n)))] := by
  refine Pure.of_wp Tryd.func55 rfl (Nat.le_of_ble_eq_true rfl) ?_
  refine wSeq ?_
  refine wRegion ?_
  refine raB rfl rfl rfl rfl rfl ?_
  refine rNil ?_
  refine qSeq ?_
  refine wSeq ?_
  refine wRegion ?_
  refine rmI rfl rfl rfl rfl rfl ?_
  refine rclX (p39 n) rfl rfl rfl rfl rfl rfl ?_
  rintro c h1_1
  try dsimp only at h1_1
  refine rmT rfl rfl rfl rfl rfl ?_
  refine rex rfl rfl rfl rfl rfl rfl ?_
  refine rex rfl rfl rfl rfl rfl rfl ?_
  refine raI rfl rfl rfl rfl rfl ?_
  refine raI rfl rfl rfl rfl rfl ?_
  refine rNil ?_
  refine qSeq ?_
  refine wSeq ?_
  refine wRegion ?_
  refine rmI rfl rfl rfl rfl rfl ?_
  refine req rfl rfl rfl rfl rfl rfl ?_ ?_ <;> intro h2_1
  · refine raB rfl rfl rfl rfl rfl ?_
    refine rNil ?_
    refine qSeq ?_
    refine wRet ?_
    first | exact finT rfl (h1_1.1 h2_1) | exact finF rfl (fun e => h2_1 (h1_1.2 e))
  · refine raB rfl rfl rfl rfl rfl ?_
    refine rNil ?_
    refine qSeq ?_
    refine wRet ?_
    first | exact finT rfl (h1_1.1 h2_1) | exact finF rfl (fun e => h2_1 (h1_1.2 e))
theorem p25 (a : An) : Pure En 59 [.agg a.T] [.one (.bool (decide a.OK))] := by
  refine Pure.of_wp Tryd.func59 rfl (Nat.le_of_ble_eq_true rfl) ?_
  refine wSeq ?_
  refine wRegion ?_
  refine rbx (u := .agg [.int _ _, .int _ _, .int _ _, .int _ _]) rfl rfl rfl rfl rfl rfl rfl ?_
  refine raB rfl rfl rfl rfl rfl ?_
  refine rNil ?_
  refine qSeq ?_
  refine wSeq ?_
  refine wRegion ?_
  refine rfa (off := 0) (s := 1) (r := false) rfl rfl rfl (Nat.succ_ne_zero _) rfl rfl rfl ?_
  refine rlc (v := .int _ _) rfl rfl rfl rfl rfl rfl rfl rfl rfl ?_
  refine rclP (p12 _ _ _) rfl rfl rfl rfl rfl rfl ?_ ?_ <;> intro h1_2
  · refine rmB rfl rfl rfl rfl rfl ?_
    refine rfa (off := 1) (s := 1) (r := false) rfl rfl rfl (Nat.succ_ne_zero _) rfl rfl rfl ?_
    refine rlc (v := .int _ _) rfl rfl rfl rfl rfl rfl rfl rfl rfl ?_
    refine rclP (p12 _ _ _) rfl rfl rfl rfl rfl rfl ?_ ?_ <;> intro h1_6
    · refine rpk (e := true) rfl rfl rfl rfl rfl rfl ?_
      refine rmB rfl rfl rfl rfl rfl ?_
      refine rfa (off := 2) (s := 1) (r := false) rfl rfl rfl (Nat.succ_ne_zero _) rfl rfl rfl ?_
      refine rlc (v := .int _ _) rfl rfl rfl rfl rfl rfl rfl rfl rfl ?_
      refine rclP (p12 _ _ _) rfl rfl rfl rfl rfl rfl ?_ ?_ <;> intro h1_11
      · refine rpk (e := true) rfl rfl rfl rfl rfl rfl ?_
        refine rmB rfl rfl rfl rfl rfl ?_
        refine rfa (off := 3) (s := 1) (r := false) rfl rfl rfl (Nat.succ_ne_zero _) rfl rfl rfl ?_
        refine rlc (v := .int _ _) rfl rfl rfl rfl rfl rfl rfl rfl rfl ?_
        refine rclP (p12 _ _ _) rfl rfl rfl rfl rfl rfl ?_ ?_ <;> intro h1_16
        · refine rpk (e := true) rfl rfl rfl rfl rfl rfl ?_
          refine raB rfl rfl rfl rfl rfl ?_
          refine rNil ?_
          refine qSeq ?_
          refine wRet ?_
          first | (refine finT rfl ?_; unfold An.OK; omega) | (refine finF rfl ?_; unfold An.OK; omega)
        · refine rpk (e := false) rfl rfl rfl rfl rfl rfl ?_
          refine raB rfl rfl rfl rfl rfl ?_
          refine rNil ?_
          refine qSeq ?_
          refine wRet ?_
          first | (refine finT rfl ?_; unfold An.OK; omega) | (refine finF rfl ?_; unfold An.OK; omega)
      · refine rpk (e := false) rfl rfl rfl rfl rfl rfl ?_
        refine rmB rfl rfl rfl rfl rfl ?_
        refine rSkip rfl rfl rfl ?_
        refine rSkip rfl rfl rfl ?_
        refine rSkip rfl rfl rfl ?_
        refine rpk (e := false) rfl rfl rfl rfl rfl rfl ?_
        refine raB rfl rfl rfl rfl rfl ?_
        refine rNil ?_
        refine qSeq ?_
        refine wRet ?_
        first | (refine finT rfl ?_; unfold An.OK; omega) | (refine finF rfl ?_; unfold An.OK; omega)
    · refine rpk (e := false) rfl rfl rfl rfl rfl rfl ?_
      refine rmB rfl rfl rfl rfl rfl ?_
      refine rSkip rfl rfl rfl ?_
      refine rSkip rfl rfl rfl ?_
      refine rSkip rfl rfl rfl ?_
      refine rpk (e := false) rfl rfl rfl rfl rfl rfl ?_
      refine rmB rfl rfl rfl rfl rfl ?_
      refine rSkip rfl rfl rfl ?_
      refine rSkip rfl rfl rfl ?_
      refine rSkip rfl rfl rfl ?_
      refine rpk (e := false) rfl rfl rfl rfl rfl rfl ?_
      refine raB rfl rfl rfl rfl rfl ?_
      refine rNil ?_
      refine qSeq ?_
      refine wRet ?_
      first | (refine finT rfl ?_; unfold An.OK; omega) | (refine finF rfl ?_; unfold An.OK; omega)
  · refine rmB rfl rfl rfl rfl rfl ?_
    refine rSkip rfl rfl rfl ?_
    refine rSkip rfl rfl rfl ?_
    refine rSkip rfl rfl rfl ?_
    refine rpk (e := false) rfl rfl rfl rfl rfl rfl ?_
    refine rmB rfl rfl rfl rfl rfl ?_
    refine rSkip rfl rfl rfl ?_
    refine rSkip rfl rfl rfl ?_
    refine rSkip rfl rfl rfl ?_
    refine rpk (e := false) rfl rfl rfl rfl rfl rfl ?_
    refine rmB rfl rfl rfl rfl rfl ?_
    refine rSkip rfl rfl rfl ?_
    refine rSkip rfl rfl rfl ?_
    refine rSkip rfl rfl rfl ?_
    refine rpk (e := false) rfl rfl rfl rfl rfl rfl ?_
    refine raB rfl rfl rfl rfl rfl ?_
    refine rNil ?_
    refine qSeq ?_
    refine wRet ?_
    first | (refine finT rfl ?_; unfold An.OK; omega) | (refine finF rfl ?_; unfold An.OK; omega)
def Rp.ok (r : Rp) : Prop := (0 ≤ r.nd ∧ r.nd ≤ 6) ∧ (0 ≤ r.cl ∧ r.cl ≤ 255) ∧ (1 ≤ r.st ∧ r.st ≤ 65535) ∧ r.an.OK
instance (r : Rp) : Decidable r.ok := by unfold Rp.ok; infer_instance
theorem p19 (r : Rp) : Pure En 82 [.agg r.T] [.one (.bool (decide r.ok))] := by
  refine Pure.of_wp Tryd.func82 rfl (Nat.le_of_ble_eq_true rfl) ?_
  refine wSeq ?_
  refine wRegion ?_
  refine rbx (u := .agg [.int _ _, .int _ _, .int _ _, .int _ _, .int _ _, .int _ _, .int _ _, .str _]) rfl rfl rfl rfl rfl rfl rfl ?_
  refine raB rfl rfl rfl rfl rfl ?_
  refine rNil ?_
  refine qSeq ?_
  refine wSeq ?_
  refine wRegion ?_
  refine rfa (off := 0) (s := 1) (r := false) rfl rfl rfl (Nat.succ_ne_zero _) rfl rfl rfl ?_
  refine rlc (v := .int _ _) rfl rfl rfl rfl rfl rfl rfl rfl rfl ?_
  refine rclP (p12 _ _ _) rfl rfl rfl rfl rfl rfl ?_ ?_ <;> intro h1_2
  · refine rmB rfl rfl rfl rfl rfl ?_
    refine rfa (off := 1) (s := 1) (r := false) rfl rfl rfl (Nat.succ_ne_zero _) rfl rfl rfl ?_
    refine rlc (v := .int _ _) rfl rfl rfl rfl rfl rfl rfl rfl rfl ?_
    refine rclP (p12 _ _ _) rfl rfl rfl rfl rfl rfl ?_ ?_ <;> intro h1_6
    · refine rpk (e := true) rfl rfl rfl rfl rfl rfl ?_
      refine rmB rfl rfl rfl rfl rfl ?_
      refine rfa (off := 2) (s := 1) (r := false) rfl rfl rfl (Nat.succ_ne_zero _) rfl rfl rfl ?_
      refine rlc (v := .int _ _) rfl rfl rfl rfl rfl rfl rfl rfl rfl ?_
      refine rclP (p12 _ _ _) rfl rfl rfl rfl rfl rfl ?_ ?_ <;> intro h1_11
      · refine rpk (e := true) rfl rfl rfl rfl rfl rfl ?_
        refine rmB rfl rfl rfl rfl rfl ?_
        refine rfa (off := 3) (s := 4) (r := true) rfl rfl rfl (Nat.succ_ne_zero _) rfl rfl rfl ?_
        refine rlr (vs := [.int _ _, .int _ _, .int _ _, .int _ _]) rfl rfl rfl rfl rfl (Nat.le_of_ble_eq_true rfl) rfl rfl rfl rfl ?_
        refine rclP (p25 r.an) rfl rfl rfl rfl rfl rfl ?_ ?_ <;> intro h1_16
        · refine rpk (e := true) rfl rfl rfl rfl rfl rfl ?_
          refine raB rfl rfl rfl rfl rfl ?_
          refine rNil ?_
          refine qSeq ?_
          refine wRet ?_
          first | exact finT rfl ⟨by assumption, by assumption, by assumption, by assumption⟩ | (refine finF rfl fun hw => ?_; obtain ⟨w1, w2, w3, w4⟩ := hw; first | contradiction | omega)
        · refine rpk (e := false) rfl rfl rfl rfl rfl rfl ?_
          refine raB rfl rfl rfl rfl rfl ?_
          refine rNil ?_
          refine qSeq ?_
          refine wRet ?_
          first | exact finT rfl ⟨by assumption, by assumption, by assumption, by assumption⟩ | (refine finF rfl fun hw => ?_; obtain ⟨w1, w2, w3, w4⟩ := hw; first | contradiction | omega)
      · refine rpk (e := false) rfl rfl rfl rfl rfl rfl ?_
        refine rmB rfl rfl rfl rfl rfl ?_
        refine rSkip rfl rfl rfl ?_
        refine rSkip rfl rfl rfl ?_
        refine rSkip rfl rfl rfl ?_
        refine rpk (e := false) rfl rfl rfl rfl rfl rfl ?_
        refine raB rfl rfl rfl rfl rfl ?_
        refine rNil ?_
        refine qSeq ?_
        refine wRet ?_
        first | exact finT rfl ⟨by assumption, by assumption, by assumption, by assumption⟩ | (refine finF rfl fun hw => ?_; obtain ⟨w1, w2, w3, w4⟩ := hw; first | contradiction | omega)
    · refine rpk (e := false) rfl rfl rfl rfl rfl rfl ?_
      refine rmB rfl rfl rfl rfl rfl ?_
      refine rSkip rfl rfl rfl ?_
      refine rSkip rfl rfl rfl ?_
      refine rSkip rfl rfl rfl ?_
      refine rpk (e := false) rfl rfl rfl rfl rfl rfl ?_
      refine rmB rfl rfl rfl rfl rfl ?_
      refine rSkip rfl rfl rfl ?_
      refine rSkip rfl rfl rfl ?_
      refine rSkip rfl rfl rfl ?_
      refine rpk (e := false) rfl rfl rfl rfl rfl rfl ?_
      refine raB rfl rfl rfl rfl rfl ?_
      refine rNil ?_
      refine qSeq ?_
      refine wRet ?_
      first | exact finT rfl ⟨by assumption, by assumption, by assumption, by assumption⟩ | (refine finF rfl fun hw => ?_; obtain ⟨w1, w2, w3, w4⟩ := hw; first | contradiction | omega)
  · refine rmB rfl rfl rfl rfl rfl ?_
    refine rSkip rfl rfl rfl ?_
    refine rSkip rfl rfl rfl ?_
    refine rSkip rfl rfl rfl ?_
    refine rpk (e := false) rfl rfl rfl rfl rfl rfl ?_
    refine rmB rfl rfl rfl rfl rfl ?_
    refine rSkip rfl rfl rfl ?_
    refine rSkip rfl rfl rfl ?_
    refine rSkip rfl rfl rfl ?_
    refine rpk (e := false) rfl rfl rfl rfl rfl rfl ?_
    refine rmB rfl rfl rfl rfl rfl ?_
    refine rSkip rfl rfl rfl ?_
    refine rSkip rfl rfl rfl ?_
    refine rSkip rfl rfl rfl ?_
    refine rpk (e := false) rfl rfl rfl rfl rfl rfl ?_
    refine raB rfl rfl rfl rfl rfl ?_
    refine rNil ?_
    refine qSeq ?_
    refine wRet ?_
    first | exact finT rfl ⟨by assumption, by assumption, by assumption, by assumption⟩ | (refine finF rfl fun hw => ?_; obtain ⟨w1, w2, w3, w4⟩ := hw; first | contradiction | omega)
def Rp.OK (n : Int) (r : Rp) : Prop := nodes n ∧ r.ok ∧ r.nd < n ∧ r.mac = rm r
noncomputable instance (n : Int) (r : Rp) : Decidable (r.OK n) := Classical.propDecidable _
theorem p27 (n : Int) (r : Rp) : Pure En 61 [.one (.int .i64 n), .agg r.T] [.one (.bool (decide (r.OK n)))] := by
  refine Pure.of_wp Tryd.func61 rfl (Nat.le_of_ble_eq_true rfl) ?_
  refine wSeq ?_
  refine wRegion ?_
  refine rbx (u := .agg [.int _ _, .int _ _, .int _ _, .int _ _, .int _ _, .int _ _, .int _ _, .str _]) rfl rfl rfl rfl rfl rfl rfl ?_
  refine raB rfl rfl rfl rfl rfl ?_
  refine rNil ?_
  refine qSeq ?_
  refine wSeq ?_
  refine wDraw [0, 1, 3, 7, 15, 31, 63, 127, 255, 127, 1023, 2047, 4095, 8191, 16383, 8191, 40959, 131071, 262143, 524287] rfl (by decide +kernel) ?_
  refine dmI rfl rfl rfl rfl rfl ?_
  refine dclP (p22 _) rfl rfl rfl rfl rfl rfl ?_ ?_ <;> intro h1_1
  · refine dmB rfl rfl rfl rfl rfl ?_
    refine dlr (vs := [.int _ _, .int _ _, .int _ _, .int _ _, .int _ _, .int _ _, .int _ _, .str _]) rfl rfl rfl rfl rfl (Nat.le_of_ble_eq_true rfl) rfl rfl rfl rfl ?_
    refine dclP (p19 r) rfl rfl rfl rfl rfl rfl ?_ ?_ <;> intro h1_4
    · refine dpk (e := true) rfl rfl rfl rfl rfl rfl ?_
      refine dmB rfl rfl rfl rfl rfl ?_
      refine dfa (off := 0) (s := 1) (r := false) rfl rfl rfl (Nat.succ_ne_zero _) rfl rfl rfl ?_
      refine dlc (v := .int _ _) rfl rfl rfl rfl rfl rfl rfl rfl rfl ?_
      refine dmI rfl rfl rfl rfl rfl ?_
      refine dlt rfl rfl rfl rfl rfl rfl ?_ ?_ <;> intro h1_10
      · refine dpk (e := true) rfl rfl rfl rfl rfl rfl ?_
        refine dmB rfl rfl rfl rfl rfl ?_
        refine dfa (off := 7) (s := 1) (r := false) rfl rfl rfl (Nat.succ_ne_zero _) rfl rfl rfl ?_
        refine dlc (v := .str _) rfl rfl rfl rfl rfl rfl rfl rfl rfl ?_
        refine dlr (vs := [.int _ _, .int _ _, .int _ _, .int _ _, .int _ _, .int _ _, .int _ _, .str _]) rfl rfl rfl rfl rfl (Nat.le_of_ble_eq_true rfl) rfl rfl rfl rfl ?_
        refine dcl (p20 r h1_4.2.2.2) rfl rfl rfl rfl rfl rfl ?_
        refine dseq rfl rfl rfl rfl rfl rfl ?_ ?_ <;> intro h1_17
        · refine dpk (e := true) rfl rfl rfl rfl rfl rfl ?_
          refine daB rfl rfl rfl rfl rfl ?_
          refine dNilR 20 [0, 0, 0, 0, 1, 1, 0, 0, 0, 0, 0, 1, 0, 0, 0, 0, 1, 0, 0, 0] [] rfl rfl (by decide +kernel) trivial ?_
          refine qSeq ?_
          refine wRet ?_
          first | exact finT rfl ⟨by assumption, by assumption, by assumption, by assumption⟩ | (refine finF rfl fun hw => ?_; obtain ⟨w1, w2, w3, w4⟩ := hw; first | contradiction | omega)
        · refine dpk (e := false) rfl rfl rfl rfl rfl rfl ?_
          refine daB rfl rfl rfl rfl rfl ?_
          refine dNilR 20 [0, 0, 0, 0, 1, 1, 0, 0, 0, 0, 0, 1, 0, 0, 0, 0, 1, 0, 0, 0] [] rfl rfl (by decide +kernel) trivial ?_
          refine qSeq ?_
          refine wRet ?_
          first | exact finT rfl ⟨by assumption, by assumption, by assumption, by assumption⟩ | (refine finF rfl fun hw => ?_; obtain ⟨w1, w2, w3, w4⟩ := hw; first | contradiction | omega)
      · refine dpk (e := false) rfl rfl rfl rfl rfl rfl ?_
        refine dmB rfl rfl rfl rfl rfl ?_
        refine dSkip rfl rfl rfl ?_
        refine dSkip rfl rfl rfl ?_
        refine dSkip rfl rfl rfl ?_
        refine dSkip rfl rfl rfl ?_
        refine dSkip rfl rfl rfl ?_
        refine dpk (e := false) rfl rfl rfl rfl rfl rfl ?_
        refine daB rfl rfl rfl rfl rfl ?_
        refine dNilR 20 [0, 0, 0, 0, 0, 0, 0, 0, 0, 0, 0, 1, 0, 0, 0, 0, 1, 0, 0, 0] [] rfl rfl (by decide +kernel) trivial ?_
        refine qSeq ?_
        refine wRet ?_
        first | exact finT rfl ⟨by assumption, by assumption, by assumption, by assumption⟩ | (refine finF rfl fun hw => ?_; obtain ⟨w1, w2, w3, w4⟩ := hw; first | contradiction | omega)
    · refine dpk (e := false) rfl rfl rfl rfl rfl rfl ?_
      refine dmB rfl rfl rfl rfl rfl ?_
      refine dSkip rfl rfl rfl ?_
      refine dSkip rfl rfl rfl ?_
      refine dSkip rfl rfl rfl ?_
      refine dSkip rfl rfl rfl ?_
      refine dpk (e := false) rfl rfl rfl rfl rfl rfl ?_
      refine dmB rfl rfl rfl rfl rfl ?_
      refine dSkip rfl rfl rfl ?_
      refine dSkip rfl rfl rfl ?_
      refine dSkip rfl rfl rfl ?_
      refine dSkip rfl rfl rfl ?_
      refine dSkip rfl rfl rfl ?_
      refine dpk (e := false) rfl rfl rfl rfl rfl rfl ?_
      refine daB rfl rfl rfl rfl rfl ?_
      refine dNilR 20 [0, 0, 0, 0, 0, 0, 0, 0, 0, 0, 0, 0, 0, 0, 0, 0, 1, 0, 0, 0] [] rfl rfl (by decide +kernel) trivial ?_
      refine qSeq ?_
      refine wRet ?_
      first | exact finT rfl ⟨by assumption, by assumption, by assumption, by assumption⟩ | (refine finF rfl fun hw => ?_; obtain ⟨w1, w2, w3, w4⟩ := hw; first | contradiction | omega)
  · refine dmB rfl rfl rfl rfl rfl ?_
    refine dSkip rfl rfl rfl ?_
    refine dSkip rfl rfl rfl ?_
    refine dpk (e := false) rfl rfl rfl rfl rfl rfl ?_
    refine dmB rfl rfl rfl rfl rfl ?_
    refine dSkip rfl rfl rfl ?_
    refine dSkip rfl rfl rfl ?_
    refine dSkip rfl rfl rfl ?_
    refine dSkip rfl rfl rfl ?_
    refine dpk (e := false) rfl rfl rfl rfl rfl rfl ?_
    refine dmB rfl rfl rfl rfl rfl ?_
    refine dSkip rfl rfl rfl ?_
    refine dSkip rfl rfl rfl ?_
    refine dSkip rfl rfl rfl ?_
    refine dSkip rfl rfl rfl ?_
    refine dSkip rfl rfl rfl ?_
    refine dpk (e := false) rfl rfl rfl rfl rfl rfl ?_
    refine daB rfl rfl rfl rfl rfl ?_
    refine dNilR 20 [0, 0, 0, 0, 0, 0, 0, 0, 0, 0, 0, 0, 0, 0, 0, 0, 0, 0, 0, 0] [] rfl rfl (by decide +kernel) trivial ?_
    refine qSeq ?_
    refine wRet ?_
    first | exact finT rfl ⟨by assumption, by assumption, by assumption, by assumption⟩ | (refine finF rfl fun hw => ?_; obtain ⟨w1, w2, w3, w4⟩ := hw; first | contradiction | omega)
theorem p26 (r : Rq) (c s : Int) : Pure En 60 [.agg r.T, .one (.int .i64 c), .one (.int .i64 s)] [.one (.bool (decide (r.OK ∧ r.cl = c ∧ r.st = s)))] := by
  refine Pure.of_wp Tryd.func60 rfl (Nat.le_of_ble_eq_true rfl) ?_
  refine wSeq ?_
  refine wRegion ?_
  refine rbx (u := .agg [.int _ _, .int _ _, .int _ _, .int _ _, .str _]) rfl rfl rfl rfl rfl rfl rfl ?_
  refine raB rfl rfl rfl rfl rfl ?_
  refine rNil ?_
  refine qSeq ?_
  refine wSeq ?_
  refine wRegion ?_
  refine rlr (vs := [.int _ _, .int _ _, .int _ _, .int _ _, .str _]) rfl rfl rfl rfl rfl (Nat.le_of_ble_eq_true rfl) rfl rfl rfl rfl ?_
  refine rclP (p35 r) rfl rfl rfl rfl rfl rfl ?_ ?_ <;> intro h1_1
  · refine rmB rfl rfl rfl rfl rfl ?_
    refine rfa (off := 0) (s := 1) (r := false) rfl rfl rfl (Nat.succ_ne_zero _) rfl rfl rfl ?_
    refine rlc (v := .int _ _) rfl rfl rfl rfl rfl rfl rfl rfl rfl ?_
    refine rmI rfl rfl rfl rfl rfl ?_
    refine req rfl rfl rfl rfl rfl rfl ?_ ?_ <;> intro h1_6
    · refine rpk (e := true) rfl rfl rfl rfl rfl rfl ?_
      refine rmB rfl rfl rfl rfl rfl ?_
      refine rfa (off := 1) (s := 1) (r := false) rfl rfl rfl (Nat.succ_ne_zero _) rfl rfl rfl ?_
      refine rlc (v := .int _ _) rfl rfl rfl rfl rfl rfl rfl rfl rfl ?_
      refine rmI rfl rfl rfl rfl rfl ?_
      refine req rfl rfl rfl rfl rfl rfl ?_ ?_ <;> intro h1_12
      · refine rpk (e := true) rfl rfl rfl rfl rfl rfl ?_
        refine raB rfl rfl rfl rfl rfl ?_
        refine rNil ?_
        refine qSeq ?_
        refine wRet ?_
        first | exact finT rfl ⟨by assumption, by assumption, by assumption⟩ | (refine finF rfl fun hw => ?_; obtain ⟨w1, w2, w3⟩ := hw; first | contradiction | omega)
      · refine rpk (e := false) rfl rfl rfl rfl rfl rfl ?_
        refine raB rfl rfl rfl rfl rfl ?_
        refine rNil ?_
        refine qSeq ?_
        refine wRet ?_
        first | exact finT rfl ⟨by assumption, by assumption, by assumption⟩ | (refine finF rfl fun hw => ?_; obtain ⟨w1, w2, w3⟩ := hw; first | contradiction | omega)
    · refine rpk (e := false) rfl rfl rfl rfl rfl rfl ?_
      refine rmB rfl rfl rfl rfl rfl ?_
      refine rSkip rfl rfl rfl ?_
      refine rSkip rfl rfl rfl ?_
      refine rSkip rfl rfl rfl ?_
      refine rSkip rfl rfl rfl ?_
      refine rpk (e := false) rfl rfl rfl rfl rfl rfl ?_
      refine raB rfl rfl rfl rfl rfl ?_
      refine rNil ?_
      refine qSeq ?_
      refine wRet ?_
      first | exact finT rfl ⟨by assumption, by assumption, by assumption⟩ | (refine finF rfl fun hw => ?_; obtain ⟨w1, w2, w3⟩ := hw; first | contradiction | omega)
  · refine rmB rfl rfl rfl rfl rfl ?_
    refine rSkip rfl rfl rfl ?_
    refine rSkip rfl rfl rfl ?_
    refine rSkip rfl rfl rfl ?_
    refine rSkip rfl rfl rfl ?_
    refine rpk (e := false) rfl rfl rfl rfl rfl rfl ?_
    refine rmB rfl rfl rfl rfl rfl ?_
    refine rSkip rfl rfl rfl ?_
    refine rSkip rfl rfl rfl ?_
    refine rSkip rfl rfl rfl ?_
    refine rSkip rfl rfl rfl ?_
    refine rpk (e := false) rfl rfl rfl rfl rfl rfl ?_
    refine raB rfl rfl rfl rfl rfl ?_
    refine rNil ?_
    refine qSeq ?_
    refine wRet ?_
    first | exact finT rfl ⟨by assumption, by assumption, by assumption⟩ | (refine finF rfl fun hw => ?_; obtain ⟨w1, w2, w3⟩ := hw; first | contradiction | omega)
end Go.Proofs.YtcafccndgpopkaaDoor
