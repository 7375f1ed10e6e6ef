import Derived.Test.YtnkpjlpappmccaaDoorD2
namespace Go.Proofs.YtnkpjlpappmccaaDoor
open Go.V
set_option linter.unusedVariables false
set_option linter.unusedSimpArgs false
set_option maxRecDepth 20000
set_option maxHeartbeats 4000000

def byt (s : ByteArray) : List Int := s.data.toList.map fun b => (b.toNat : Int)
theorem byt_length (s : ByteArray) : (byt s).length = s.size := by unfold byt; rw [List.length_map]; rfl
theorem tm64 (a : Nat) : (a : Int).tmod 64 = ((a % 64 : Nat) : Int) := rfl
theorem bytRows (s : ByteArray) : (s.data.toList.map fun b => [V.int .u8 (b.toNat : Int)]) = (byt s).map bV := by simp [byt, bV]
theorem rowsLen (s : ByteArray) : (s.data.toList.map fun b => [V.int .u8 (b.toNat : Int)]).length = s.size := by rw [bytRows, List.length_map, byt_length]
theorem snapCut {h : Heap} {ids : List Nat} {r : Bool} {id off m : Nat} {b : Blk} (L : List Int) (hid : id ∈ ids) (hb : h id = some b) (he : b.es = L.map bV) (hl : off + m ≤ L.length) :
    Snap h ids r (.view id off m) (.sl true (((L.drop off).take m).map bT)) := by
  have e : ((b.es.drop off).take m) = ((L.drop off).take m).map bV := by rw [he, List.map_take, List.map_drop]
  refine .view id off m b _ hid hb (by rw [he, List.length_map]; exact hl) (by simp; omega) (fun i x y h1 h2 => ?_) (fun i j x y h1 h2 => ?_)
  · rw [e] at h1
    rw [List.getElem?_map] at h1 h2
    cases hz : ((L.drop off).take m)[i]? with
    | none => simp [hz] at h1
    | some z =>
      simp only [hz, Option.map_some, Option.some.injEq] at h1 h2
      subst h1; subst h2; rfl
  · rw [e] at h1
    unfold get2 at h1 h2
    rw [List.getElem?_map] at h1 h2
    cases hz : ((L.drop off).take m)[i]? with
    | none => simp [hz] at h1
    | some z =>
      simp only [hz, Option.map_some, Option.bind_some] at h1 h2
      match j with
      | 0 => simp [bV, bT] at h1 h2; subst h1; subst h2; exact .int _ _
      | j + 1 => simp [bV] at h1

theorem p45 (t : ByteArray) (ht : t.size ≤ 1000000) : ∃ s : ByteArray, s.size = 32 ∧ Pure En 45 [.one (.str t)] [.one (.str s)] := by
  refine Pure.of_wpX Tryd.func45 rfl (Nat.le_of_ble_eq_true rfl) ?_
  refine wSeq ?_
  refine wRegion ?_
  refine raS rfl rfl rfl rfl rfl ?_
  refine rNil ?_
  refine qSeq ?_
  refine wSeq ?_
  refine wRegion ?_
  refine rmS rfl rfl rfl rfl rfl ?_
  refine rbt rfl rfl rfl rfl rfl rfl rfl rfl ?_
  refine rbs (es := [[.int _ _]]) rfl rfl rfl rfl (Nat.succ_ne_zero _) (Nat.le_of_ble_eq_true rfl) rfl rfl rfl rfl rfl ?_
  (apply rap (s' := 1) (es := [[.int _ _]]) rfl rfl; (first | rfl | assumption | ((simp (disch := omega) only [app, upd, hp, if_pos, if_neg]) <;> first | rfl | assumption)); rfl; rfl; (first | rfl | omega | (rw [List.length_map]; omega) | (rw [rowsLen]; exact Nat.zero_add _)); rfl; rfl; exact (Nat.succ_ne_zero _); (first | rfl | (apply srcView rfl; (first | rfl | ((simp (disch := omega) only [app, upd, hp, if_pos, if_neg]); rfl)); (first | exact Nat.le_refl _ | omega); rfl)); (first | rfl | assumption | (focus (simp; done)) | (intro _ _; simp_all)); (first | omega | (focus (simp only [List.length_cons, List.length_nil]; omega)) | (first | (show (_ + 1) * _ ≤ _; omega) | (show _ + 1 ≤ _; omega) | (rw [rowsLen]; omega))); (first | omega | (focus (simp only [List.length_cons, List.length_nil]; omega)) | (first | (show (_ + 1) * _ ≤ _; omega) | (show _ + 1 ≤ _; omega) | (rw [rowsLen]; omega))); rfl; rfl; rfl)
  refine raV rfl rfl rfl rfl rfl ?_
  refine rNil ?_
  refine qSeq ?_
  refine wSeq ?_
  refine wBlock ?_
  refine wLoop ?_
  refine loopGo (fun (a : List Int × Nat × Nat × Nat) => [.str t, .unk, .unk, .view a.2.2.1 0 a.2.1]) (fun (a : List Int × Nat × Nat × Nat) => hp [(a.2.2.1, ⟨a.1.map bV, 1, 5⟩)]) (fun (a : List Int × Nat × Nat × Nat) => a.2.2.2) (fun (a : List Int × Nat × Nat × Nat) => a.1.length = a.2.1 ∧ a.2.2.1 < a.2.2.2 ∧ t.size < a.2.1 ∧ a.2.1 + (120 - a.2.1 % 64) % 64 ≤ t.size + 100) (fun (a : List Int × Nat × Nat × Nat) => (120 - a.2.1 % 64) % 64) (byt t ++ [128], t.size + 1, 2, 3) ?_ ?_ ?_ ?_ ?_
  · exact ⟨by dsimp only; rw [List.length_append, byt_length]; rfl, by dsimp only; omega, by dsimp only; omega, by dsimp only; omega⟩
  · (repeat first | exact LE.nil _ | refine LE.unk _ _ ?_ | refine LE.eq _ _ _ rfl ?_)
  · (repeat first | exact lessH0 | (refine lessHc ?_ ?_; (first | (first | rfl | assumption | ((simp (disch := omega) only [app, upd, hp, if_pos, if_neg]) <;> first | rfl | assumption)) | (dsimp only; rw [List.map_append, ← bytRows]; rfl) | ((simp (disch := omega) only [app, upd, hp, if_pos, if_neg]); rw [List.map_append]; rfl))))
  · exact Nat.le_refl _
  intro ⟨L, ln, id, m⟩ hI ih
  dsimp only at hI ⊢
  refine lStep ?_
  refine wSeq ?_
  refine wSeq ?_
  refine wRegion ?_
  refine rmV rfl rfl rfl rfl rfl ?_
  refine rll rfl rfl rfl rfl rfl rfl ?_
  refine rrem rfl rfl rfl ?_ rfl rfl rfl ?_
  · (first | omega | assumption | (focus (simp; omega)))
  refine rne rfl rfl rfl rfl rfl rfl ?_ ?_ <;> intro h2_3
  · refine rNil ?_
    refine qSeq ?_
    refine wT rfl ?_
    refine wSkip ?_
    refine qSeq ?_
    refine wBlock ?_
    refine wRegion ?_
    refine rmV rfl rfl rfl rfl rfl ?_
    refine rbs (es := [[.int _ _]]) rfl rfl rfl rfl (Nat.succ_ne_zero _) (Nat.le_of_ble_eq_true rfl) rfl rfl rfl rfl rfl ?_
    (apply rap (s' := 1) (es := [[.int _ _]]) rfl rfl; (first | rfl | assumption | ((simp (disch := omega) only [app, upd, hp, if_pos, if_neg]) <;> first | rfl | assumption)); rfl; rfl; (first | rfl | omega | (rw [List.length_map]; omega) | (rw [rowsLen]; exact Nat.zero_add _)); rfl; rfl; exact (Nat.succ_ne_zero _); (first | rfl | (apply srcView rfl; (first | rfl | ((simp (disch := omega) only [app, upd, hp, if_pos, if_neg]); rfl)); (first | exact Nat.le_refl _ | omega); rfl)); (first | rfl | assumption | (focus (simp; done)) | (intro _ _; simp_all)); (first | omega | (focus (simp only [List.length_cons, List.length_nil]; omega)) | (first | (show (_ + 1) * _ ≤ _; omega) | (show _ + 1 ≤ _; omega) | (rw [rowsLen]; omega))); (first | omega | (focus (simp only [List.length_cons, List.length_nil]; omega)) | (first | (show (_ + 1) * _ ≤ _; omega) | (show _ + 1 ≤ _; omega) | (rw [rowsLen]; omega))); rfl; rfl; rfl)
    refine raV rfl rfl rfl rfl rfl ?_
    refine rNil ?_
    refine qBlock ?_
    refine qLoop ?_
    rw [tm64] at h2_3
    exact wlH (ih (L ++ [0], ln + 1, m + 1, m + 2) ⟨by dsimp only; rw [List.length_append, hI.1]; rfl, by dsimp only; omega, by dsimp only; omega, by dsimp only; omega⟩ (by dsimp only; omega)) (by (repeat first | exact LE.nil _ | refine LE.unk _ _ ?_ | refine LE.eq _ _ _ rfl ?_)) (by (repeat first | exact lessH0 | (refine lessHc ?_ ?_; (first | (first | rfl | assumption | ((simp (disch := omega) only [app, upd, hp, if_pos, if_neg]) <;> first | rfl | assumption)) | (dsimp only; rw [List.map_append, ← bytRows]; rfl) | ((simp (disch := omega) only [app, upd, hp, if_pos, if_neg]); rw [List.map_append]; rfl))))) (Nat.le_refl _)
  · refine rNil ?_
    refine qSeq ?_
    refine wF rfl ?_
    refine wExit ?_
    refine qSeqX ?_
    refine qLoopX ?_
    refine qBlockX ?_
    refine qSeq ?_
    refine wSeq ?_
    refine wRegion ?_
    refine rmV rfl rfl rfl rfl rfl ?_
    refine rmS rfl rfl rfl rfl rfl ?_
    refine rls rfl rfl rfl rfl rfl rfl ?_
    refine rmulF rfl rfl rfl ?_ ?_ rfl rfl rfl ?_
    · (first | omega | assumption | (focus (simp; omega)))
    · (first | omega | assumption | (focus (simp; omega)))
    refine rclX (p37 _ 8 (Nat.le_of_ble_eq_true rfl)) rfl rfl rfl rfl rfl rfl ?_
    rintro x4_4 h4_4
    (apply rap (s' := 1)  rfl rfl; (first | rfl | assumption | ((simp (disch := omega) only [app, upd, hp, if_pos, if_neg]) <;> first | rfl | assumption)); rfl; rfl; (first | rfl | omega | (rw [List.length_map]; omega) | (rw [rowsLen]; exact Nat.zero_add _)); rfl; rfl; exact (Nat.succ_ne_zero _); (first | rfl | (apply srcView rfl; (first | rfl | ((simp (disch := omega) only [app, upd, hp, if_pos, if_neg]); rfl)); (first | exact Nat.le_refl _ | omega); rfl)); (first | rfl | assumption | (focus (simp; done)) | (intro _ _; simp_all)); (first | omega | (focus (simp only [List.length_cons, List.length_nil]; omega)) | (first | (show (_ + 1) * _ ≤ _; omega) | (show _ + 1 ≤ _; omega) | (rw [rowsLen]; omega))); (first | omega | (focus (simp only [List.length_cons, List.length_nil]; omega)) | (first | (show (_ + 1) * _ ≤ _; omega) | (show _ + 1 ≤ _; omega) | (rw [rowsLen]; omega))); rfl; rfl; rfl)
    refine raV rfl rfl rfl rfl rfl ?_
    refine rNil ?_
    refine qSeq ?_
    refine wSeq ?_
    refine wRegion ?_
    refine rbd (cs := [.int _ _, .int _ _, .int _ _, .int _ _, .int _ _, .int _ _, .int _ _, .int _ _]) rfl rfl rfl rfl rfl ?_
    refine ral rfl rfl rfl rfl rfl rfl ?_
    (apply rst rfl rfl rfl; (first | rfl | assumption | ((simp (disch := omega) only [app, upd, hp, if_pos, if_neg]) <;> first | rfl | assumption)); rfl; rfl; rfl; rfl; rfl; (exact Nat.le_of_ble_eq_true rfl); rfl; rfl; rfl)
    refine rNil ?_
    refine qSeq ?_
    refine wSeq ?_
    refine wBlock ?_
    refine wLoop ?_
    refine loopGo (fun (a : Nat × Nat × W8) => [.unk, .unk, .unk, .view m a.1 a.2.1, .ptr (m + 1) 0 0]) (fun (a : Nat × Nat × W8) => hp [(m, ⟨(L ++ byt x4_4).map bV, 1, 5⟩), (m + 1, ⟨[a.2.2.V], 8, 88⟩)]) (fun (a : Nat × Nat × W8) => m + 2) (fun (a : Nat × Nat × W8) => a.1 + a.2.1 = ln + 8 ∧ a.2.1 % 64 = 0) (fun (a : Nat × Nat × W8) => a.2.1) (0, ln + (x4_4.data.toList.map fun b => [V.int .u8 (b.toNat : Int)]).length, ⟨1779033703, 3144134277, 1013904242, 2773480762, 1359893119, 2600822924, 528734635, 1541459225⟩) ?_ ?_ ?_ ?_ ?_
    · rw [tm64] at h2_3; exact ⟨by dsimp only; rw [rowsLen, h4_4]; omega, by dsimp only; rw [rowsLen, h4_4]; omega⟩
    · (repeat first | exact LE.nil _ | refine LE.unk _ _ ?_ | refine LE.eq _ _ _ rfl ?_)
    · (repeat first | exact lessH0 | (refine lessHc ?_ ?_; (first | (first | rfl | assumption | ((simp (disch := omega) only [app, upd, hp, if_pos, if_neg]) <;> first | rfl | assumption)) | ((simp (disch := omega) only [app, upd, hp, if_pos, if_neg]); rw [List.map_append, ← bytRows]; rfl))))
    · exact Nat.le_refl _
    intro ⟨off, l2, q⟩ hI ih
    dsimp only at hI ⊢
    have hx : x4_4.size = 8 := h4_4
    refine lStep ?_
    refine wSeq ?_
    refine wSeq ?_
    refine wRegion ?_
    refine rmV rfl rfl rfl rfl rfl ?_
    refine rll rfl rfl rfl rfl rfl rfl ?_
    refine rgt rfl rfl rfl rfl rfl rfl ?_ ?_ <;> intro h6_2
    · refine rNil ?_
      refine qSeq ?_
      refine wT rfl ?_
      refine wSkip ?_
      refine qSeq ?_
      refine wSeq ?_
      refine wBlock ?_
      refine wDraw [0, 0, 2, 7, 15] rfl (by decide +kernel) ?_
      (apply dlr (vs := [.int _ _, .int _ _, .int _ _, .int _ _, .int _ _, .int _ _, .int _ _, .int _ _]) rfl rfl; (first | rfl | assumption | ((simp (disch := omega) only [app, upd, hp, if_pos, if_neg]) <;> first | rfl | assumption)); rfl; rfl; (exact Nat.le_of_ble_eq_true rfl); rfl; rfl; rfl; rfl)
      refine dmV rfl rfl rfl rfl rfl ?_
      (apply dslv rfl rfl rfl; (first | rfl | assumption | ((simp (disch := omega) only [app, upd, hp, if_pos, if_neg]) <;> first | rfl | assumption)); rfl; rfl; rfl; (first | omega | assumption | (focus (simp; omega))); (first | omega | assumption | (focus (simp; omega))); (first | omega | assumption | (focus (simp; omega))); rfl; rfl; rfl)
      apply dclSX [m] (p48 q true ((((L ++ byt x4_4).drop off).take 64)) (by rw [List.length_take, List.length_drop, List.length_append, byt_length, hx]; omega)) rfl rfl rfl
      · refine SnapL.cons _ _ _ _ (SnapC.agg ?_) (SnapL.cons _ _ _ _ (.one _ _ (snapCut (b := ⟨(L ++ byt x4_4).map bV, 1, 5⟩) (L ++ byt x4_4) (List.mem_singleton.2 rfl) ?_ rfl ?_)) SnapL.nil)
        · (repeat first | exact SnapC.nil | refine SnapC.cons _ _ _ _ ?_ ?_ | exact .int _ _)
        · ((simp (disch := omega) only [app, upd, hp, if_pos, if_neg]); rfl)
        · (rw [List.length_append, byt_length, hx]; omega)
      · rfl
      · rfl
      · rfl
      rintro q2 h8_3
      (apply dst rfl rfl rfl; (first | rfl | assumption | ((simp (disch := omega) only [app, upd, hp, if_pos, if_neg]) <;> first | rfl | assumption)); rfl; rfl; rfl; rfl; rfl; (exact Nat.le_of_ble_eq_true rfl); rfl; rfl; rfl)
      refine dNilR 5 [3, 1, 1, 0, 1] [] rfl rfl (by decide +kernel) trivial ?_
      refine qBlock ?_
      refine qSeq ?_
      refine wRegion ?_
      refine rmV rfl rfl rfl rfl rfl ?_
      (apply rslv rfl rfl rfl; (first | rfl | assumption | ((simp (disch := omega) only [app, upd, hp, if_pos, if_neg]) <;> first | rfl | assumption)); rfl; rfl; rfl; (first | omega | assumption | (focus (simp; omega))); (first | omega | assumption | (focus (simp; omega))); (first | omega | assumption | (focus (simp; omega))); rfl; rfl; rfl)
      refine raV rfl rfl rfl rfl rfl ?_
      refine rNil ?_
      refine qLoop ?_
      exact wlH (ih (off + 64, l2 - 64, q2) ⟨by dsimp only; omega, by dsimp only; omega⟩ (by dsimp only; omega)) (by (repeat first | exact LE.nil _ | refine LE.unk _ _ ?_ | refine LE.eq _ _ _ rfl ?_)) (by (repeat first | exact lessH0 | (refine lessHc ?_ ?_; (first | (first | rfl | assumption | ((simp (disch := omega) only [app, upd, hp, if_pos, if_neg]) <;> first | rfl | assumption)) | ((simp (disch := omega) only [app, upd, hp, if_pos, if_neg]); rw [List.map_append, ← bytRows]; rfl))))) (Nat.le_refl _)
    · refine rNil ?_
      refine qSeq ?_
      refine wF rfl ?_
      refine wExit ?_
      refine qSeqX ?_
      refine qLoopX ?_
      refine qBlockX ?_
      refine qSeq ?_
      refine wSeq ?_
      refine wRegion ?_
      refine raS rfl rfl rfl rfl rfl ?_
      refine rNil ?_
      refine qSeq ?_
      refine wSeq ?_
      refine wSeq ?_
      refine wRegion ?_
      (apply rlr (vs := [.int _ _, .int _ _, .int _ _, .int _ _, .int _ _, .int _ _, .int _ _, .int _ _]) rfl rfl; (first | rfl | assumption | ((simp (disch := omega) only [app, upd, hp, if_pos, if_neg]) <;> first | rfl | assumption)); rfl; rfl; (exact Nat.le_of_ble_eq_true rfl); rfl; rfl; rfl; rfl)
      refine rmI rfl rfl rfl rfl rfl ?_
      refine rNil ?_
      refine qSeq ?_
      refine wBlock ?_
      refine wLoop ?_
      refine loopGo0 (fun (a : Nat × ByteArray) => [.unk, .unk, .unk, .unk, .unk, .str a.2, .unk, .unk, .unk, .unk, .unk, .unk, .unk, .unk, .unk, .unk, .unk, .unk, .unk, .unk, .unk, .unk, .unk, .unk, .unk, .unk, .unk, .unk, .unk, .unk, .unk, .unk, .unk, .unk, .unk, .agg q.V, .int .i64 a.1]) (fun (a : Nat × ByteArray) => a.1 ≤ 8 ∧ a.2.size = 4 * a.1) (fun (a : Nat × ByteArray) => 8 - a.1) (0, ⟨#[]⟩) ?_ ?_ ?_
      · exact ⟨Nat.zero_le _, rfl⟩
      · (repeat first | exact LE.nil _ | refine LE.unk _ _ ?_ | refine LE.eq _ _ _ rfl ?_)
      intro ⟨i, s⟩ hI ih
      dsimp only at hI ⊢
      refine lStep ?_
      refine wSeq ?_
      refine wRegion ?_
      refine rlt rfl rfl rfl rfl rfl rfl ?_ ?_ <;> intro h11_0
      · refine rNil ?_
        refine qSeq ?_
        refine wSeq ?_
        refine wT rfl ?_
        refine wSkip ?_
        refine qSeq ?_
        refine wSeq ?_
        refine wBlock ?_
        refine wSeq ?_
        refine wRegion ?_
        (apply rixg (c := 8) (s := 1) rfl rfl rfl rfl rfl; (first | omega | assumption | (focus (simp; omega))); (first | omega | assumption | (focus (simp; omega))); exact getW (L := [q.a, q.b, q.c, q.d, q.e, q.f, q.g, q.h]) (by show _ < 8; omega); (show _ + 1 ≤ 8; omega); rfl; rfl; rfl)
        refine raI rfl rfl rfl rfl rfl ?_
        refine rNil ?_
        refine qSeq ?_
        refine wRegion ?_
        refine rmS rfl rfl rfl rfl rfl ?_
        refine rmI rfl rfl rfl rfl rfl ?_
        refine rcv rfl rfl rfl rfl rfl rfl rfl ?_
        refine rclX (p37 _ 4 (Nat.le_of_ble_eq_true rfl)) rfl rfl rfl rfl rfl rfl ?_
        rintro x13_3 h13_3
        refine rcat rfl rfl rfl ?_ rfl rfl rfl ?_
        · (first | omega | assumption | (focus (simp; omega)))
        refine raS rfl rfl rfl rfl rfl ?_
        refine rNil ?_
        refine qBlock ?_
        refine qSeq ?_
        refine wRegion ?_
        refine raddF rfl rfl rfl ?_ ?_ rfl rfl rfl ?_
        · (first | omega | assumption | (focus (simp; omega)))
        · (first | omega | assumption | (focus (simp; omega)))
        refine rmI rfl rfl rfl rfl rfl ?_
        refine rNil ?_
        refine qLoop ?_
        exact wlN (ih (i + 1, s ++ x13_3) ⟨by dsimp only; omega, by dsimp only; rw [ByteArray.size_append, h13_3]; omega⟩ (by dsimp only; omega)) (by (repeat first | exact LE.nil _ | refine LE.unk _ _ ?_ | refine LE.eq _ _ _ rfl ?_))
      · refine rNil ?_
        refine qSeq ?_
        refine wSeq ?_
        refine wF rfl ?_
        refine wExit ?_
        refine qSeqX ?_
        refine qLoopX ?_
        refine qBlockX ?_
        refine qSeq ?_
        refine wSeq ?_
        refine wRegion ?_
        refine rmS rfl rfl rfl rfl rfl ?_
        refine raS rfl rfl rfl rfl rfl ?_
        refine rNil ?_
        refine qSeq ?_
        refine wRet ?_
        exact ⟨s, by omega, fin rfl rfl⟩
end Go.Proofs.YtnkpjlpappmccaaDoor
