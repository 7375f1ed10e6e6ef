import Derived.Test.YtcafccndgpopkaaDoorT6
namespace Go.Proofs.YtcafccndgpopkaaDoor
open Go.V
set_option linter.unusedVariables false
set_option linter.unusedSimpArgs false
set_option maxRecDepth 20000
set_option maxHeartbeats 4000000

/-! spec's replies: what is marked, right replies, lists of nodes. -/
/-- A reply's bytes. -/
def plL (r : Rp) : List Int := [114, 101, 112, 108, 121] ++ [IntKind.u8.wrap r.cl] ++ numL r.st 2 ++ [IntKind.u8.wrap r.an.kd] ++ numL r.an.tk 3 ++ numL (r.an.hd + 1) 2 ++ numL r.an.ex 4
theorem plL_length (r : Rp) : (plL r).length = 18 := by
  unfold plL; simp only [List.length_append, numL_length, List.length_cons, List.length_nil]
theorem one_bytes (x : Int) : bytes [IntKind.u8.wrap x] := fun b hb => by rw [List.mem_singleton] at hb; subst hb; exact u8_in _
theorem plL_bytes (r : Rp) : bytes (plL r) := by
  unfold plL
  refine bytes_app (bytes_app (bytes_app (bytes_app (bytes_app (bytes_app ?_ (one_bytes _)) (numL_bytes _ 2 (by decide))) (one_bytes _)) (numL_bytes _ 3 (by decide))) (numL_bytes _ 2 (by decide))) (numL_bytes _ 4 (by decide))
  intro b hb
  simp only [List.mem_cons, List.not_mem_nil, or_false] at hb
  omega
theorem plL_str (r : Rp) : strOf (plL r) = lit2 ++ Nm r.cl 1 ++ Nm r.st 2 ++ atx r.an := by
  unfold plL atx
  simp only [strOf_app, Nm_eq, numL1, ByteArray.append_assoc]
  rfl
theorem s92 (r : Rp) (hr : r.ok) : Pure En 92 [.agg r.T] [.one (.sl true ((plL r).map bT))] := by
  have h1 := hr.2.2.2
  unfold An.OK at h1
  refine Pure.of_wp Tryd.func92 rfl (Nat.le_of_ble_eq_true rfl) ?_
  refine wSeq ?_
  refine wRegion ?_
  refine rbx (u := .agg [.int _ _, .int _ _, .int _ _, .int _ _, .int _ _, .int _ _, .int _ _, .str _]) rfl rfl rfl rfl rfl rfl rfl ?_
  refine raN rfl rfl rfl rfl rfl ?_
  refine rNil ?_
  refine qSeq ?_
  refine wSeq ?_
  refine wRegion ?_
  refine rbs (es := [[.int _ _], [.int _ _], [.int _ _], [.int _ _], [.int _ _]]) rfl rfl rfl rfl (Nat.succ_ne_zero _) (Nat.le_of_ble_eq_true rfl) rfl rfl rfl rfl rfl ?_
  (apply rmk8 rfl rfl; (first | ((simp (disch := omega) only [↓app0, ↓appC, ↓updS, ↓updN, ↓hpS, ↓hpN]) <;> first | rfl | assumption) | assumption | rfl); rfl; rfl; rfl; rfl; rfl)
  refine rfa (off := 1) (s := 1) (r := false) rfl rfl rfl (Nat.succ_ne_zero _) rfl rfl rfl ?_
  (apply rlc (v := .int _ _) rfl rfl; (first | ((simp (disch := omega) only [↓app0, ↓appC, ↓updS, ↓updN, ↓hpS, ↓hpN]) <;> first | rfl | assumption) | assumption | rfl); rfl; rfl; rfl; rfl; rfl; rfl)
  refine rcv rfl rfl rfl rfl rfl rfl rfl ?_
  refine rbs (es := [[.int _ _]]) rfl rfl rfl rfl (Nat.succ_ne_zero _) (Nat.le_of_ble_eq_true rfl) rfl rfl rfl rfl rfl ?_
  (apply rap (s' := 1) (es := [[.int _ _]]) rfl rfl; (first | ((simp (disch := omega) only [↓app0, ↓appC, ↓updS, ↓updN, ↓hpS, ↓hpN]) <;> first | rfl | assumption) | assumption | rfl); rfl; rfl; (first | rfl | (focus (simp only [List.length_append, List.length_drop, List.length_map, List.length_cons, List.length_nil, numL_length, Nat.sub_zero, Nat.zero_add]; done)) | (focus (simp only [List.length_append, List.length_drop, List.length_map, List.length_cons, List.length_nil, numL_length, Nat.sub_zero, Nat.zero_add]; omega))); rfl; rfl; exact (Nat.succ_ne_zero _); (first | rfl | (apply srcView rfl; (first | ((simp (disch := omega) only [↓app0, ↓appC, ↓updS, ↓updN, ↓hpS, ↓hpN]) <;> first | rfl | assumption) | assumption | rfl); (first | exact Nat.le_refl _ | omega); rfl)); (first | rfl | assumption | (focus (simp; done)) | (focus (intro _ hc; rw [List.mem_singleton] at hc; subst hc; rfl)) | (intro _ _; simp_all)); (first | omega | (focus (simp only [List.length_cons, List.length_nil]; omega)) |  (exact Nat.le_of_ble_eq_true rfl) | (focus (simp only [List.length_append, List.length_drop, List.length_map, List.length_cons, List.length_nil, numL_length, Nat.sub_zero, Nat.zero_add]; omega)) | omega); (first | omega | (focus (simp only [List.length_cons, List.length_nil]; omega)) |  (exact Nat.le_of_ble_eq_true rfl) | (focus (simp only [List.length_append, List.length_drop, List.length_map, List.length_cons, List.length_nil, numL_length, Nat.sub_zero, Nat.zero_add]; omega)) | omega); rfl; rfl; rfl)
  refine raV rfl rfl rfl rfl rfl ?_
  refine rNil ?_
  refine qSeq ?_
  refine wSeq ?_
  refine wDraw [0, 0, 2, 6, 15, 0, 32, 96, 224, 480, 1023, 2047] rfl (by decide +kernel) ?_
  refine dmV rfl rfl rfl rfl rfl ?_
  refine dfa (off := 2) (s := 1) (r := false) rfl rfl rfl (Nat.succ_ne_zero _) rfl rfl rfl ?_
  (apply dlc (v := .int _ _) rfl rfl; (first | ((simp (disch := omega) only [↓app0, ↓appC, ↓updS, ↓updN, ↓hpS, ↓hpN]) <;> first | rfl | assumption) | assumption | rfl); rfl; rfl; rfl; rfl; rfl; rfl)
  refine dcl (s105 (r.st) 2 (by decide)) rfl rfl rfl rfl rfl rfl ?_
  (apply dap (s' := 1) rfl rfl; (first | ((simp (disch := omega) only [↓app0, ↓appC, ↓updS, ↓updN, ↓hpS, ↓hpN]) <;> first | rfl | assumption) | assumption | rfl); rfl; rfl; (first | rfl | (focus (simp only [List.length_append, List.length_drop, List.length_map, List.length_cons, List.length_nil, numL_length, Nat.sub_zero, Nat.zero_add]; done)) | (focus (simp only [List.length_append, List.length_drop, List.length_map, List.length_cons, List.length_nil, numL_length, Nat.sub_zero, Nat.zero_add]; omega))); rfl; rfl; exact (Nat.succ_ne_zero _); rfl; exact (lenBf true (numL r.st 2)); (first | (exact Nat.le_of_ble_eq_true rfl) | (focus (simp only [List.length_append, List.length_drop, List.length_map, List.length_cons, List.length_nil, numL_length, Nat.sub_zero, Nat.zero_add]; omega)) | omega); (first | (exact Nat.le_of_ble_eq_true rfl) | (focus (simp only [List.length_append, List.length_drop, List.length_map, List.length_cons, List.length_nil, numL_length, Nat.sub_zero, Nat.zero_add]; omega)) | omega); rfl; rfl; rfl)
  refine dfa (off := 3) (s := 4) (r := true) rfl rfl rfl (Nat.succ_ne_zero _) rfl rfl rfl ?_
  refine dfa (off := 0) (s := 1) (r := false) rfl rfl rfl (Nat.succ_ne_zero _) rfl rfl rfl ?_
  (apply dlc (v := .int _ _) rfl rfl; (first | ((simp (disch := omega) only [↓app0, ↓appC, ↓updS, ↓updN, ↓hpS, ↓hpN]) <;> first | rfl | assumption) | assumption | rfl); rfl; rfl; rfl; rfl; rfl; rfl)
  refine dcv rfl rfl rfl rfl rfl rfl rfl ?_
  refine dbs (es := [[.int _ _]]) rfl rfl rfl rfl (Nat.succ_ne_zero _) (Nat.le_of_ble_eq_true rfl) rfl rfl rfl rfl rfl ?_
  (apply dap (s' := 1) (es := [[.int _ _]]) rfl rfl; (first | ((simp (disch := omega) only [↓app0, ↓appC, ↓updS, ↓updN, ↓hpS, ↓hpN]) <;> first | rfl | assumption) | assumption | rfl); rfl; rfl; (first | rfl | (focus (simp only [List.length_append, List.length_drop, List.length_map, List.length_cons, List.length_nil, numL_length, Nat.sub_zero, Nat.zero_add]; done)) | (focus (simp only [List.length_append, List.length_drop, List.length_map, List.length_cons, List.length_nil, numL_length, Nat.sub_zero, Nat.zero_add]; omega))); rfl; rfl; exact (Nat.succ_ne_zero _); (first | rfl | (apply srcView rfl; (first | ((simp (disch := omega) only [↓app0, ↓appC, ↓updS, ↓updN, ↓hpS, ↓hpN]) <;> first | rfl | assumption) | assumption | rfl); (first | exact Nat.le_refl _ | omega); rfl)); (first | rfl | assumption | (focus (simp; done)) | (focus (intro _ hc; rw [List.mem_singleton] at hc; subst hc; rfl)) | (intro _ _; simp_all)); (first | omega | (focus (simp only [List.length_cons, List.length_nil]; omega)) |  (exact Nat.le_of_ble_eq_true rfl) | (focus (simp only [List.length_append, List.length_drop, List.length_map, List.length_cons, List.length_nil, numL_length, Nat.sub_zero, Nat.zero_add]; omega)) | omega); (first | omega | (focus (simp only [List.length_cons, List.length_nil]; omega)) |  (exact Nat.le_of_ble_eq_true rfl) | (focus (simp only [List.length_append, List.length_drop, List.length_map, List.length_cons, List.length_nil, numL_length, Nat.sub_zero, Nat.zero_add]; omega)) | omega); rfl; rfl; rfl)
  refine daV rfl rfl rfl rfl rfl ?_
  refine dNilR 12 [0, 3, 3, 0, 1, 0, 0, 3, 0, 1, 0, 0] [(4, 7), (2, 9), (4, 9)] rfl rfl (by decide +kernel) ?_ ?_
  · (simp [ClearL, ids, srcIds, Env.eval, upd, retV, A.toV, T.toV]; try omega)
  refine qSeq ?_
  refine wSeq ?_
  refine wDraw [0, 0, 2, 6, 14, 31, 0, 64, 192, 448, 1023, 2047, 4095] rfl (by decide +kernel) ?_
  refine dmV rfl rfl rfl rfl rfl ?_
  refine dfa (off := 3) (s := 4) (r := true) rfl rfl rfl (Nat.succ_ne_zero _) rfl rfl rfl ?_
  refine dfa (off := 1) (s := 1) (r := false) rfl rfl rfl (Nat.succ_ne_zero _) rfl rfl rfl ?_
  (apply dlc (v := .int _ _) rfl rfl; (first | ((simp (disch := omega) only [↓app0, ↓appC, ↓updS, ↓updN, ↓hpS, ↓hpN]) <;> first | rfl | assumption) | assumption | rfl); rfl; rfl; rfl; rfl; rfl; rfl)
  refine dcl (s105 (r.an.tk) 3 (by decide)) rfl rfl rfl rfl rfl rfl ?_
  (apply dap (s' := 1) rfl rfl; (first | ((simp (disch := omega) only [↓app0, ↓appC, ↓updS, ↓updN, ↓hpS, ↓hpN]) <;> first | rfl | assumption) | assumption | rfl); rfl; rfl; (first | rfl | (focus (simp only [List.length_append, List.length_drop, List.length_map, List.length_cons, List.length_nil, numL_length, Nat.sub_zero, Nat.zero_add]; done)) | (focus (simp only [List.length_append, List.length_drop, List.length_map, List.length_cons, List.length_nil, numL_length, Nat.sub_zero, Nat.zero_add]; omega))); rfl; rfl; exact (Nat.succ_ne_zero _); rfl; exact (lenBf true (numL r.an.tk 3)); (first | (exact Nat.le_of_ble_eq_true rfl) | (focus (simp only [List.length_append, List.length_drop, List.length_map, List.length_cons, List.length_nil, numL_length, Nat.sub_zero, Nat.zero_add]; omega)) | omega); (first | (exact Nat.le_of_ble_eq_true rfl) | (focus (simp only [List.length_append, List.length_drop, List.length_map, List.length_cons, List.length_nil, numL_length, Nat.sub_zero, Nat.zero_add]; omega)) | omega); rfl; rfl; rfl)
  refine dfa (off := 3) (s := 4) (r := true) rfl rfl rfl (Nat.succ_ne_zero _) rfl rfl rfl ?_
  refine dfa (off := 2) (s := 1) (r := false) rfl rfl rfl (Nat.succ_ne_zero _) rfl rfl rfl ?_
  (apply dlc (v := .int _ _) rfl rfl; (first | ((simp (disch := omega) only [↓app0, ↓appC, ↓updS, ↓updN, ↓hpS, ↓hpN]) <;> first | rfl | assumption) | assumption | rfl); rfl; rfl; rfl; rfl; rfl; rfl)
  refine daddF rfl rfl rfl ?_ ?_ rfl rfl rfl ?_
  · omega
  · omega
  refine dcl (s105 (r.an.hd + 1) 2 (by decide)) rfl rfl rfl rfl rfl rfl ?_
  (apply dap (s' := 1) rfl rfl; (first | ((simp (disch := omega) only [↓app0, ↓appC, ↓updS, ↓updN, ↓hpS, ↓hpN]) <;> first | rfl | assumption) | assumption | rfl); rfl; rfl; (first | rfl | (focus (simp only [List.length_append, List.length_drop, List.length_map, List.length_cons, List.length_nil, numL_length, Nat.sub_zero, Nat.zero_add]; done)) | (focus (simp only [List.length_append, List.length_drop, List.length_map, List.length_cons, List.length_nil, numL_length, Nat.sub_zero, Nat.zero_add]; omega))); rfl; rfl; exact (Nat.succ_ne_zero _); rfl; exact (lenBf true (numL (r.an.hd + 1) 2)); (first | (exact Nat.le_of_ble_eq_true rfl) | (focus (simp only [List.length_append, List.length_drop, List.length_map, List.length_cons, List.length_nil, numL_length, Nat.sub_zero, Nat.zero_add]; omega)) | omega); (first | (exact Nat.le_of_ble_eq_true rfl) | (focus (simp only [List.length_append, List.length_drop, List.length_map, List.length_cons, List.length_nil, numL_length, Nat.sub_zero, Nat.zero_add]; omega)) | omega); rfl; rfl; rfl)
  refine daV rfl rfl rfl rfl rfl ?_
  refine dNilR 13 [0, 3, 0, 0, 1, 0, 0, 3, 0, 1, 0, 0, 0] [(5, 8)] rfl rfl (by decide +kernel) ?_ ?_
  · (simp [ClearL, ids, srcIds, Env.eval, upd, retV, A.toV, T.toV]; try omega)
  refine qSeq ?_
  refine wSeq ?_
  refine wRegion ?_
  refine rmV rfl rfl rfl rfl rfl ?_
  refine rfa (off := 3) (s := 4) (r := true) rfl rfl rfl (Nat.succ_ne_zero _) rfl rfl rfl ?_
  refine rfa (off := 3) (s := 1) (r := false) rfl rfl rfl (Nat.succ_ne_zero _) rfl rfl rfl ?_
  (apply rlc (v := .int _ _) rfl rfl; (first | ((simp (disch := omega) only [↓app0, ↓appC, ↓updS, ↓updN, ↓hpS, ↓hpN]) <;> first | rfl | assumption) | assumption | rfl); rfl; rfl; rfl; rfl; rfl; rfl)
  refine rcl (s105 (r.an.ex) 4 (by decide)) rfl rfl rfl rfl rfl rfl ?_
  (apply rap (s' := 1) rfl rfl; (first | ((simp (disch := omega) only [↓app0, ↓appC, ↓updS, ↓updN, ↓hpS, ↓hpN]) <;> first | rfl | assumption) | assumption | rfl); rfl; rfl; (first | rfl | (focus (simp only [List.length_append, List.length_drop, List.length_map, List.length_cons, List.length_nil, numL_length, Nat.sub_zero, Nat.zero_add]; done)) | (focus (simp only [List.length_append, List.length_drop, List.length_map, List.length_cons, List.length_nil, numL_length, Nat.sub_zero, Nat.zero_add]; omega))); rfl; rfl; exact (Nat.succ_ne_zero _); rfl; exact (lenBf true (numL r.an.ex 4)); (first | (exact Nat.le_of_ble_eq_true rfl) | (focus (simp only [List.length_append, List.length_drop, List.length_map, List.length_cons, List.length_nil, numL_length, Nat.sub_zero, Nat.zero_add]; omega)) | omega); (first | (exact Nat.le_of_ble_eq_true rfl) | (focus (simp only [List.length_append, List.length_drop, List.length_map, List.length_cons, List.length_nil, numL_length, Nat.sub_zero, Nat.zero_add]; omega)) | omega); rfl; rfl; rfl)
  refine raV rfl rfl rfl rfl rfl ?_
  refine rNil ?_
  refine qSeq ?_
  refine wRet ?_
  refine finS (xs := [_]) [9] rfl (.cons _ _ _ _ (.one _ _ (snapB (List.mem_singleton.2 rfl) ?_ ?_)) .nil)
  · (simp (disch := omega) only [↓app0, ↓appC, ↓updS, ↓updN, ↓hpS, ↓hpN]); refine congrArg (fun z => some (Blk.mk z 1 5)) ?_; simp only [plL, List.map_append, List.drop_zero, rowsBf]; rfl
  · rw [plL_length]; simp only [List.length_append, List.length_drop, List.length_map, List.length_cons, List.length_nil, numL_length, Nat.sub_zero, Nat.zero_add]
theorem s78 (r : Rp) (hr : r.ok) : Pure En 78 [.agg r.T] [.one (.str (rm r))] := by
  refine Pure.of_wp Tryd.func78 rfl (Nat.le_of_ble_eq_true rfl) ?_
  refine wSeq ?_
  refine wRegion ?_
  refine rbx (u := .agg [.int _ _, .int _ _, .int _ _, .int _ _, .int _ _, .int _ _, .int _ _, .str _]) rfl rfl rfl rfl rfl rfl rfl ?_
  refine raS rfl rfl rfl rfl rfl ?_
  refine rNil ?_
  refine qSeq ?_
  refine wSeq ?_
  refine wDraw [0, 1, 0, 4, 15, 31] rfl (by decide +kernel) ?_
  refine dfa (off := 0) (s := 1) (r := false) rfl rfl rfl (Nat.succ_ne_zero _) rfl rfl rfl ?_
  refine dlc (v := .int _ _) rfl rfl rfl rfl rfl rfl rfl rfl rfl ?_
  refine dlr (vs := [.int _ _, .int _ _, .int _ _, .int _ _, .int _ _, .int _ _, .int _ _, .str _]) rfl rfl rfl rfl rfl (Nat.le_of_ble_eq_true rfl) rfl rfl rfl rfl ?_
  refine dcl (s92 r hr) rfl rfl rfl rfl rfl rfl ?_
  refine dcl (s91 r.nd true (plL r) (by rw [plL_length]; decide) (plL_bytes r)) rfl rfl rfl rfl rfl rfl ?_
  refine daS rfl rfl rfl rfl rfl ?_
  refine dNilR 6 [0, 0, 0, 1, 1, 0] [] rfl rfl (by decide +kernel) trivial ?_
  refine qSeq ?_
  refine wRet ?_
  have e := plL_str r
  unfold rm; rw [← e]; exact fin rfl rfl
/-- A right reply among so many nodes (whatever the number is). -/
def Rp.fits (n : Int) (r : Rp) : Prop := r.ok ∧ r.nd < n ∧ rm r = r.mac
noncomputable instance (n : Int) (r : Rp) : Decidable (r.fits n) := Classical.propDecidable _
theorem fits_OK {n : Int} (hn : nodes n) (r : Rp) : r.fits n ↔ r.OK n := ⟨fun h => ⟨hn, h.1, h.2.1, h.2.2.symm⟩, fun h => ⟨h.2.1, h.2.2.1, h.2.2.2.symm⟩⟩
theorem s53 (n : Int) (r : Rp) : Pure En 53 [.one (.int .i64 n), .agg r.T] [.one (.bool (decide (r.fits n)))] := by
  refine Pure.of_wp Tryd.func53 rfl (Nat.le_of_ble_eq_true rfl) ?_
  refine wSeq ?_
  refine wRegion ?_
  refine rbx (u := .agg [.int _ _, .int _ _, .int _ _, .int _ _, .int _ _, .int _ _, .int _ _, .str _]) rfl rfl rfl rfl rfl rfl rfl ?_
  refine raB rfl rfl rfl rfl rfl ?_
  refine rNil ?_
  refine qSeq ?_
  refine wSeq ?_
  refine wDraw [0, 1, 3, 7, 15, 7, 63, 127, 255, 511, 1023, 511, 2559, 8191, 16383, 32767] rfl (by decide +kernel) ?_
  refine dlr (vs := [.int _ _, .int _ _, .int _ _, .int _ _, .int _ _, .int _ _, .int _ _, .str _]) rfl rfl rfl rfl rfl (Nat.le_of_ble_eq_true rfl) rfl rfl rfl rfl ?_
  refine dclP (s77 r) rfl rfl rfl rfl rfl rfl ?_ ?_ <;> intro h1_1
  · refine dmB rfl rfl rfl rfl rfl ?_
    refine dfa (off := 0) (s := 1) (r := false) rfl rfl rfl (Nat.succ_ne_zero _) rfl rfl rfl ?_
    refine dlc (v := .int _ _) rfl rfl rfl rfl rfl rfl rfl rfl rfl ?_
    refine dmI rfl rfl rfl rfl rfl ?_
    refine dlt rfl rfl rfl rfl rfl rfl ?_ ?_ <;> intro h1_6
    · refine dpk (e := true) rfl rfl rfl rfl rfl rfl ?_
      refine dmB rfl rfl rfl rfl rfl ?_
      refine dlr (vs := [.int _ _, .int _ _, .int _ _, .int _ _, .int _ _, .int _ _, .int _ _, .str _]) rfl rfl rfl rfl rfl (Nat.le_of_ble_eq_true rfl) rfl rfl rfl rfl ?_
      refine dcl (s78 r h1_1) rfl rfl rfl rfl rfl rfl ?_
      refine dfa (off := 7) (s := 1) (r := false) rfl rfl rfl (Nat.succ_ne_zero _) rfl rfl rfl ?_
      refine dlc (v := .str _) rfl rfl rfl rfl rfl rfl rfl rfl rfl ?_
      refine dseq rfl rfl rfl rfl rfl rfl ?_ ?_ <;> intro h1_13
      · refine dpk (e := true) rfl rfl rfl rfl rfl rfl ?_
        refine daB rfl rfl rfl rfl rfl ?_
        refine dNilR 16 [0, 0, 0, 1, 0, 0, 1, 0, 0, 0, 0, 1, 0, 0, 0, 1] [] rfl rfl (by decide +kernel) trivial ?_
        refine qSeq ?_
        refine wRet ?_
        first | exact finT rfl ⟨by assumption, by assumption, by assumption⟩ | (refine finF rfl fun hw => ?_; obtain ⟨w1, w2, w3⟩ := hw; first | contradiction | omega)
      · refine dpk (e := false) rfl rfl rfl rfl rfl rfl ?_
        refine daB rfl rfl rfl rfl rfl ?_
        refine dNilR 16 [0, 0, 0, 1, 0, 0, 1, 0, 0, 0, 0, 1, 0, 0, 0, 1] [] rfl rfl (by decide +kernel) trivial ?_
        refine qSeq ?_
        refine wRet ?_
        first | exact finT rfl ⟨by assumption, by assumption, by assumption⟩ | (refine finF rfl fun hw => ?_; obtain ⟨w1, w2, w3⟩ := hw; first | contradiction | omega)
    · refine dpk (e := false) rfl rfl rfl rfl rfl rfl ?_
      refine dmB rfl rfl rfl rfl rfl ?_
      refine dSkip rfl rfl rfl ?_
      refine dSkip rfl rfl rfl ?_
      refine dSkip rfl rfl rfl ?_
      refine dSkip rfl rfl rfl ?_
      refine dSkip rfl rfl rfl ?_
      refine dpk (e := false) rfl rfl rfl rfl rfl rfl ?_
      refine daB rfl rfl rfl rfl rfl ?_
      refine dNilR 16 [0, 0, 0, 0, 0, 0, 0, 0, 0, 0, 0, 1, 0, 0, 0, 1] [] rfl rfl (by decide +kernel) trivial ?_
      refine qSeq ?_
      refine wRet ?_
      first | exact finT rfl ⟨by assumption, by assumption, by assumption⟩ | (refine finF rfl fun hw => ?_; obtain ⟨w1, w2, w3⟩ := hw; first | contradiction | omega)
  · refine dmB rfl rfl rfl rfl rfl ?_
    refine dSkip rfl rfl rfl ?_
    refine dSkip rfl rfl rfl ?_
    refine dSkip rfl rfl rfl ?_
    refine dSkip rfl rfl rfl ?_
    refine dpk (e := false) rfl rfl rfl rfl rfl rfl ?_
    refine dmB rfl rfl rfl rfl rfl ?_
    refine dSkip rfl rfl rfl ?_
    refine dSkip rfl rfl rfl ?_
    refine dSkip rfl rfl rfl ?_
    refine dSkip rfl rfl rfl ?_
    refine dSkip rfl rfl rfl ?_
    refine dpk (e := false) rfl rfl rfl rfl rfl rfl ?_
    refine daB rfl rfl rfl rfl rfl ?_
    refine dNilR 16 [0, 0, 0, 0, 0, 0, 0, 0, 0, 0, 0, 0, 0, 0, 0, 1] [] rfl rfl (by decide +kernel) trivial ?_
    refine qSeq ?_
    refine wRet ?_
    first | exact finT rfl ⟨by assumption, by assumption, by assumption⟩ | (refine finF rfl fun hw => ?_; obtain ⟨w1, w2, w3⟩ := hw; first | contradiction | omega)
theorem drop_get' {L : List Int} {i : Nat} (h : i < L.length) : L.getD i 0 ∈ L := by
  simp [List.getD, h]
theorem s79 (nn : Bool) (L : List Int) (x : Int) (hL : L.length ≤ 1000000) : Pure En 79 [.one (.sl nn (L.map fun y => [.int .i64 y])), .one (.int .i64 x)] [.one (.bool (decide (x ∈ L)))] := by
  have hl : (L.map fun y => [T.int .i64 y]).length = L.length := List.length_map ..
  refine Pure.of_wp Tryd.func79 rfl (Nat.le_of_ble_eq_true rfl) ?_
  refine wSeq ?_
  refine wRegion ?_
  refine raB rfl rfl rfl rfl rfl ?_
  refine rNil ?_
  refine qSeq ?_
  refine wSeq ?_
  refine wSeq ?_
  refine wRegion ?_
  refine raI rfl rfl rfl rfl rfl ?_
  refine rNil ?_
  refine qSeq ?_
  refine wBlock ?_
  refine wLoop ?_
  refine loopGo0 (fun (i : Nat) => [.sl false nn (L.map fun y => [.int .i64 y]), .int .i64 x, .unk, .unk, .unk, .int .i64 i]) (fun (i : Nat) => i ≤ L.length ∧ ∀ j, j < i → L.getD j 0 ≠ x) (fun (i : Nat) => L.length - i) 0 ?_ ?_ ?_
  · exact ⟨Nat.zero_le _, all0⟩
  · (repeat first | exact LE.nil _ | refine LE.unk _ _ ?_ | refine LE.eq _ _ _ rfl ?_)
  intro i hI ih
  refine lStep ?_
  refine wSeq ?_
  refine wSeq ?_
  refine wRegion ?_
  refine rmI rfl rfl rfl rfl rfl ?_
  refine rmL rfl rfl rfl rfl rfl ?_
  refine rll rfl rfl rfl rfl rfl rfl ?_
  refine rlt rfl rfl rfl rfl rfl rfl ?_ ?_ <;> intro h2_3
  · refine rNil ?_
    refine qSeq ?_
    refine wT rfl ?_
    refine wSkip ?_
    refine qSeq ?_
    refine wSeq ?_
    refine wBlock ?_
    refine wSeq ?_
    refine wRegion ?_
    refine rmL rfl rfl rfl rfl rfl ?_
    refine rmI rfl rfl rfl rfl rfl ?_
    (apply rixl rfl rfl rfl rfl; (first | omega | assumption | (focus (simp; omega))); (first | rfl | assumption | exact mapGet (fun y => [T.int .i64 y]) 0 (by omega)); rfl; rfl; rfl; rfl)
    refine rlic (v := .int _ _) rfl rfl rfl rfl rfl rfl rfl rfl ?_
    refine rmI rfl rfl rfl rfl rfl ?_
    refine req rfl rfl rfl rfl rfl rfl ?_ ?_ <;> intro h4_5
    · refine rNil ?_
      refine qSeq ?_
      refine wT rfl ?_
      refine wSeq ?_
      refine wRegion ?_
      refine raB rfl rfl rfl rfl rfl ?_
      refine rNil ?_
      refine qSeq ?_
      refine wRet ?_
      refine qBlockR ?_
      refine qSeqR ?_
      refine qLoopR ?_
      refine qBlockR ?_
      refine qSeqR ?_
      first
        | (refine finT rfl ?_; rw [← h4_5, Int.toNat_natCast]; exact drop_get' (by omega))
        | (refine finF rfl fun hw => ?_; obtain ⟨j, hj, he⟩ := List.getElem_of_mem hw; exact hI.2 j (by omega) (by rw [← he]; simp [List.getD, hj]))
    · refine rNil ?_
      refine qSeq ?_
      refine wF rfl ?_
      refine wSkip ?_
      refine qBlock ?_
      refine qSeq ?_
      refine wRegion ?_
      refine rmI rfl rfl rfl rfl rfl ?_
      refine raddF rfl rfl rfl ?_ ?_ rfl rfl rfl ?_
      · (first | omega | assumption | (focus (simp; omega)))
      · (first | omega | assumption | (focus (simp; omega)))
      refine raI rfl rfl rfl rfl rfl ?_
      refine rNil ?_
      refine qLoop ?_
      exact wlN (ih (i + 1) ⟨by omega, allS hI.2 (by intro e; exact h4_5 (by rw [Int.toNat_natCast]; exact e))⟩ (by omega)) (by (repeat first | exact LE.nil _ | refine LE.unk _ _ ?_ | refine LE.eq _ _ _ rfl ?_))
  · refine rNil ?_
    refine qSeq ?_
    refine wF rfl ?_
    refine wExit ?_
    refine qSeqX ?_
    refine qLoopX ?_
    refine qBlockX ?_
    refine qSeq ?_
    refine wSeq ?_
    refine wRegion ?_
    refine raB rfl rfl rfl rfl rfl ?_
    refine rNil ?_
    refine qSeq ?_
    refine wRet ?_
    first
      | (refine finT rfl ?_; rw [← h4_5, Int.toNat_natCast]; exact drop_get' (by omega))
      | (refine finF rfl fun hw => ?_; obtain ⟨j, hj, he⟩ := List.getElem_of_mem hw; exact hI.2 j (by omega) (by rw [← he]; simp [List.getD, hj]))
end Go.Proofs.YtcafccndgpopkaaDoor
