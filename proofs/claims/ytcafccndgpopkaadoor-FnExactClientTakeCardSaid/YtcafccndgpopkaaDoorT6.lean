import Derived.Test.YtcafccndgpopkaaDoorT5
import Derived.Test.YtcafccndgpopkaaDoorVs
namespace Go.Proofs.YtcafccndgpopkaaDoor
open Go.V
set_option linter.unusedVariables false
set_option linter.unusedSimpArgs false
set_option maxRecDepth 20000
set_option maxHeartbeats 4000000

/-! spec's marks. -/
theorem snapS {h : Heap} {ids : List Nat} {r : Bool} {id m : Nat} {s : ByteArray} (hid : id ∈ ids) (hb : h id = some ⟨s.data.toList.map fun b => [V.int .u8 (b.toNat : Int)], 1, 5⟩) (hm : m = s.size) : Snap h ids r (.view id 0 m) (.sl true ((byt s).map bT)) :=
  snapB hid (hb.trans (by rw [bytRows])) (hm.trans (byt_length s).symm)
theorem numL1 (x : Int) : numL x 1 = [IntKind.u8.wrap x] := by
  rw [numL_top 1 (by decide), show topL x 1 1 = [bt8 x 0] from rfl, bt8_zero]
theorem Hs_eq (t : ByteArray) : Hs t = sha t := by with_unfolding_all rfl
theorem s103s (nn : Bool) (s : ByteArray) (h : s.size ≤ 1000000) : Pure En 103 [.one (.sl nn ((byt s).map bT))] [.one (.str (Hs s))] := by
  have := s103 nn (byt s) (by rw [byt_length]; exact h) (byt_bytes s)
  rw [strOf_byt] at this; rw [Hs_eq]; exact this
theorem Nm_eq (x : Int) (m : Nat) : Nm x m = strOf (numL x m) := by with_unfolding_all rfl
theorem s104 (id : Int) : Pure En 104 [.one (.int .i64 id)] [.one (.str (Hs (lit1 ++ Nm id 1)))] := by
  refine Pure.of_wp Tryd.func104 rfl (Nat.le_of_ble_eq_true rfl) ?_
  refine wSeq ?_
  refine wRegion ?_
  refine raS rfl rfl rfl rfl rfl ?_
  refine rNil ?_
  refine qSeq ?_
  refine wSeq ?_
  refine wRegion ?_
  refine rmI rfl rfl rfl rfl rfl ?_
  refine rcv rfl rfl rfl rfl rfl rfl rfl ?_
  refine rbs (es := [[.int _ _]]) rfl rfl rfl rfl (Nat.succ_ne_zero _) (Nat.le_of_ble_eq_true rfl) rfl rfl rfl rfl rfl ?_
  (apply rsg rfl rfl rfl rfl; (apply srcView rfl; (first | ((simp (disch := omega) only [↓app0, ↓appC, ↓updS, ↓updN, ↓hpS, ↓hpN]) <;> first | rfl | assumption) | assumption | rfl); (first | exact Nat.le_refl _ | omega | (simp; omega)); rfl); (intro s e; cases e); exact (show _ = List.map (fun b => [V.int .u8 b]) [IntKind.u8.wrap id] from rfl); rfl; rfl; rfl)
  refine rcat rfl rfl rfl ?_ rfl rfl rfl ?_
  · (first | omega | assumption | (focus (simp; omega)) | (rw [strOf_size]; show (8 : Nat) + 1 ≤ _; omega))
  refine rbt rfl rfl rfl rfl rfl rfl rfl rfl ?_
  apply rclS [1] (s103s true (lit1 ++ strOf [IntKind.u8.wrap id]) (by rw [ByteArray.size_append, strOf_size]; show 8 + 1 ≤ _; omega)) rfl rfl rfl
  · refine SnapL.cons _ _ _ _ (.one _ _ (snapS (List.mem_singleton.2 rfl) ?_ rfl)) SnapL.nil
    (first | ((simp (disch := omega) only [↓app0, ↓appC, ↓updS, ↓updN, ↓hpS, ↓hpN]) <;> first | rfl | assumption) | assumption | rfl)
  · rfl
  · rfl
  · rfl
  refine raS rfl rfl rfl rfl rfl ?_
  refine rNil ?_
  refine qSeq ?_
  refine wRet ?_
  rw [Nm_eq, numL1]; exact fin rfl rfl
theorem byt_app (a b : ByteArray) : byt (a ++ b) = byt a ++ byt b := by simp [byt]
theorem s91 (id : Int) (nn : Bool) (B : List Int) (hL : B.length ≤ 100000) (hB : bytes B) : Pure En 91 [.one (.int .i64 id), .one (.sl nn (B.map bT))] [.one (.str (mk id (strOf B)))] := by
  have e1 : (((Hs (lit1 ++ Nm id 1)).data.toList.map fun b => [V.int .u8 (b.toNat : Int)]).drop 0) ++ ((B.map bT).map fun x => x.map (T.toV false)) = (byt ((Hs (lit1 ++ Nm id 1)) ++ strOf B)).map bV := by
    rw [bytRows, List.drop_zero, rowsBf, byt_app, byt_strOf hB, List.map_append]
  refine Pure.of_wp Tryd.func91 rfl (Nat.le_of_ble_eq_true rfl) ?_
  refine wSeq ?_
  refine wRegion ?_
  refine raS rfl rfl rfl rfl rfl ?_
  refine rNil ?_
  refine qSeq ?_
  refine wSeq ?_
  refine wRegion ?_
  refine rmI rfl rfl rfl rfl rfl ?_
  refine rcl (s104 id) rfl rfl rfl rfl rfl rfl ?_
  refine rbt rfl rfl rfl rfl rfl rfl rfl rfl ?_
  refine rmL rfl rfl rfl rfl rfl ?_
  (apply rap (s' := 1) rfl rfl; (first | ((simp (disch := omega) only [↓app0, ↓appC, ↓updS, ↓updN, ↓hpS, ↓hpN]) <;> first | rfl | assumption) | assumption | rfl); rfl; rfl; (show 0 + (Hs _).size = List.length _; rw [rowsLen]; omega); rfl; rfl; exact (Nat.succ_ne_zero _); rfl; exact (lenBf false B); (simp only [List.length_map, Hs_size]; omega); (simp only [List.length_map, Hs_size]; omega); rfl; rfl; rfl)
  apply rclS [1] (s103s true ((Hs (lit1 ++ Nm id 1)) ++ strOf B) (by rw [ByteArray.size_append, Hs_size, strOf_size]; omega)) rfl rfl rfl
  · refine SnapL.cons _ _ _ _ (.one _ _ (snapB (List.mem_singleton.2 rfl) ?_ ?_)) SnapL.nil
    · (first | ((simp (disch := omega) only [↓app0, ↓appC, ↓updS, ↓updN, ↓hpS, ↓hpN]); exact congrArg (fun z => some (Blk.mk z 1 5)) e1))
    · rw [byt_length, ByteArray.size_append, strOf_size, List.length_map, List.length_map]
  · rfl
  · rfl
  · rfl
  refine rsls rfl rfl rfl rfl rfl ?_ ?_ ?_ rfl rfl rfl ?_
  · (first | omega | assumption | (rw [Hs_size]; omega) | (show (8 : Int) ≤ ((Hs _).size : Int); rw [Hs_size]; omega))
  · (first | omega | assumption | (rw [Hs_size]; omega) | (show (8 : Int) ≤ ((Hs _).size : Int); rw [Hs_size]; omega))
  · (first | omega | assumption | (rw [Hs_size]; omega) | (show (8 : Int) ≤ ((Hs _).size : Int); rw [Hs_size]; omega))
  refine raS rfl rfl rfl rfl rfl ?_
  refine rNil ?_
  refine qSeq ?_
  refine wRet ?_
  exact fin rfl rfl
end Go.Proofs.YtcafccndgpopkaaDoor
