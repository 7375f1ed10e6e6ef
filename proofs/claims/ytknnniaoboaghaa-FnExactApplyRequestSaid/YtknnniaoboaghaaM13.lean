import Derived.Test.YtknnniaoboaghaaM12
namespace Go.Proofs.Ytknnniaoboaghaa
open Go.V
set_option linter.unusedVariables false
set_option linter.unusedSimpArgs false
set_option maxRecDepth 20000
set_option maxHeartbeats 4000000
theorem insRows {R : List (List V)} {k len : Nat} {x y : List V} (hl : R.length = len) (hk : k ≤ len) (e : y = x) : List.drop 0 (List.drop 0 (List.drop 0 [] ++ List.take ((k : Int).toNat - Int.toNat 0) (List.drop (0 + Int.toNat 0) R)) ++ [y]) ++ List.take ((len : Int).toNat - (k : Int).toNat) (List.drop (0 + (k : Int).toNat) R) = R.take k ++ x :: R.drop k := by
 subst e
 have z0 : Int.toNat 0 = 0 := rfl
 simp only [List.drop_zero, List.nil_append, Int.toNat_natCast, z0, Nat.sub_zero, Nat.zero_add]
 rw [List.take_of_length_le (l := R.drop k) (by simp; omega)]
 simp
theorem insLen {R : List (List V)} {k len : Nat} {y : List V} (hl : R.length = len) (hk : k ≤ len) : 0 + (List.take ((k : Int).toNat - Int.toNat 0) (List.drop (0 + Int.toNat 0) R)).length + [y].length + (List.take ((len : Int).toNat - (k : Int).toNat) (List.drop (0 + (k : Int).toNat) R)).length = len + 1 := by
 have z0 : Int.toNat 0 = 0 := rfl
 simp only [List.length_take, List.length_drop, List.length_cons, List.length_nil, z0, Int.toNat_natCast]
 omega
theorem rwW_mem (L : List Lk) (W : Nat → V) : ∀ c ∈ rwW L W, c.length = 5 := rwW_five L W
theorem o129x (t : Tb) (r : Rq) (bd : Bd t r) (hh : ¬ hit r.nm t.lk) {k : Nat} (hp : pos r.nm t.lk = k) {id lb : Nat} {Ss : V} {W : Nat → V} {h : Heap} {n : Nat} (T : TabM t id (.view lb 0 t.lk.length) Ss W h n) : OpenM En 129 [.ptr id 0 0, .agg [.int .i64 r.cl, .int .i64 r.st, .int .i64 r.kd, .int .i64 r.le, .str r.nm]] h n (fun v g m => v = .agg (acqT t r).2.V ∧ TabS (acqT t r).1 id (OwnT id (.view lb 0 t.lk.length) Ss W t.lk.length) n h g m) := by
 have hid := T.idn
 have kid := T.kid
 have hl4 := bd.l4; have htm := bd.tm; have hnx := bd.nx; have hcl := bd.cl; have hle := bd.le
 have hf := s43 t false false false r.nm bd.srt (by omega)
 rw [fix_no hh] at hf
 have hk : k ≤ t.lk.length := by rw [← hp]; exact pos_le _ _
 have hsl := T.fl
 have hkl := T.kl
 have hA : ((rwW t.lk W).take k).length = k := by rw [List.length_take, rwW_len]; omega
 have hRI : k < ((rwW t.lk W).take k ++ [.str r.nm, .int .i64 0, .int .i64 (-1), .int .i64 0, (.view (n + 1 + 1) 0 0)] :: (rwW t.lk W).drop k).length := by rw [List.length_append, hA, List.length_cons]; omega
 have hrow : ((rwW t.lk W).take k ++ [.str r.nm, .int .i64 0, .int .i64 (-1), .int .i64 0, (.view (n + 1 + 1) 0 0)] :: (rwW t.lk W).drop k)[k]? = some [.str r.nm, .int .i64 0, .int .i64 (-1), .int .i64 0, (.view (n + 1 + 1) 0 0)] := get_mid hA
 have klb : h lb = some ⟨rwW t.lk W, 5, 29⟩ := by
  rcases T.kl with ⟨e, _⟩ | ⟨b, e, q⟩
  ·cases e
  ·injection e with e1 e2 e3; rw [e1]; exact q
 have hlb := T.fl lb rfl
 have hne := hlb.2
 refine OpenM.of_wp Try.func129 rfl (Nat.le_of_ble_eq_true rfl) ?_
 refine wSeq (wRegion (rbx (u := .agg [.int _ _, .int _ _, .int _ _, .int _ _, .str _]) rfl rfl rfl rfl rfl rfl rfl (ral rfl rfl rfl rfl rfl rfl (rNil (qSeq (wSeq (wDraw [0, 1, 3, 0, 8, 31, 63] rfl (by decide +kernel) ?_)))))))
 refine dmP rfl rfl rfl rfl rfl (dnc (v := .ptr _ _ _) rfl rfl rfl rfl rfl rfl ?_)
 (apply dlr (vs := [.int _ _, .int _ _, _, _]) rfl rfl; exact Q0; exact Q6; rfl; (exact Nat.le_of_ble_eq_true rfl); rfl; rfl; rfl; rfl)
 refine dfa (off := 4) (s := 1) (r := false) rfl rfl rfl (Nat.succ_ne_zero _) rfl rfl rfl ?_
 (apply dlc (v := .str _) rfl rfl; exact Q0; exact Q6; rfl; rfl; rfl; rfl; rfl)
 apply dclS (id :: tabIds (.view lb 0 t.lk.length) Ss W t.lk.length) hf rfl rfl rfl
 ·exact SnapL.cons _ _ _ _ (snapTab (T.ext (m := n + 1 + 1) (by omega) (fun a ha => by (simp (disch := (first | omega | assumption)) only [↓appC, ↓updN, ↓updS, ↓app0]))).kl (T.ext (m := n + 1 + 1) (by omega) (fun a ha => by (simp (disch := (first | omega | assumption)) only [↓appC, ↓updN, ↓updS, ↓app0]))).ks (T.ext (m := n + 1 + 1) (by omega) (fun a ha => by (simp (disch := (first | omega | assumption)) only [↓appC, ↓updN, ↓updS, ↓app0]))).kw (fun a ha => List.mem_cons_of_mem _ ha)) (SnapL.cons _ _ _ _ (.one _ _ (.str _)) SnapL.nil)
 ·rfl
 ·rfl
 ·rfl
 refine daI rfl rfl rfl rfl rfl (dNilR 7 [0, 1, 1, 0, 1, 0, 0] [] rfl rfl (by decide +kernel) trivial ?_)
 refine qSeq (wSeq (wSeq (wRegion (rmI rfl rfl rfl rfl rfl ?_))))
 refine rlt rfl rfl rfl rfl rfl rfl ?_ (fun h => absurd ((by show (-1 : Int) < 0; decide)) h)
 intro h2_1
 refine rNil (qSeq (wT rfl (wSeq (wSeq (wRegion (rmP rfl rfl rfl rfl rfl (rnc (v := .ptr _ _ _) rfl rfl rfl rfl rfl rfl (rfa (off := 2) (s := 1) (r := false) rfl rfl rfl (Nat.succ_ne_zero _) rfl rfl rfl ?_))))))))
 (apply rlc (v := .view _ _ _) rfl rfl; exact Q0; exact Q6; rfl; rfl; rfl; rfl; rfl)
 refine rll rfl rfl rfl rfl rfl rfl ?_
 refine req rfl rfl rfl rfl rfl rfl ?_ ?_ <;> intro h3_5
 ·refine rNil (qSeq (wT rfl (wSeq (wRegion (rbd (cs := [.int _ _, .int _ _, .int _ _, .int _ _]) rfl rfl rfl rfl rfl ?_)))))
  (apply rst (u := .agg [.int _ _, .int _ _, .int _ _, .int _ _]) rfl rfl rfl; exact Q0; exact Q6; rfl; rfl; rfl; rfl; (exact Nat.le_of_ble_eq_true rfl); rfl; rfl; rfl)
  refine rNil (qSeq (wRet (qSeqR (qSeqR (finM (resL_cons (resV_row rfl (by exact Q0) rfl rfl (Nat.le_of_ble_eq_true rfl) rfl) resL_nil) (by (repeat first | exact Ch.refl _ | refine Ch.upd ?_ | refine Ch.app ?_ | assumption)) ?_)))))
  rw [acqT_no hh (by omega)]
  exact ⟨rfl, T.same (by omega) (fun a ha => by (simp (disch := (first | omega | assumption)) only [↓appC, ↓updN, ↓updS, ↓app0]))⟩
 ·refine rNil (qSeq (wF rfl (wSkip (qSeq (wSeq (wRegion (raI rfl rfl rfl rfl rfl (rNil (qSeq (wSeq (wBlock (wLoop ?_))))))))))))
  refine wlG fun g0 hg0 => ?_
  have k0 : g0 n = some ⟨[[.int .i64 r.cl, .int .i64 r.st, .int .i64 r.kd, .int .i64 r.le, .str r.nm]], 5, 64⟩ := by rw [hg0]; (simp (disch := (first | omega | assumption)) only [↓appC, ↓updN, ↓updS, ↓app0]); rfl
  have k1 : g0 (n + 1) = some ⟨[[.int .i64 0, .int .i64 0, .int .i64 0, .int .i64 0]], 4, 60⟩ := by rw [hg0]; (simp (disch := (first | omega | assumption)) only [↓appC, ↓updN, ↓updS, ↓app0]); rfl
  have k2 : g0 id = some ⟨[[.int .i64 t.tm, .int .i64 t.nx, .view lb 0 t.lk.length, Ss]], 4, 35⟩ := by rw [hg0]; exact Q0
  have kk : ∀ a, a < n → g0 a = h a := fun a ha => by rw [hg0]; (simp (disch := (first | omega | assumption)) only [↓appC, ↓updN, ↓updS, ↓app0])
  have kc : Ch h g0 := by rw [hg0]; (repeat first | exact Ch.refl _ | refine Ch.upd ?_ | refine Ch.app ?_)
  have k3 : g0 lb = some ⟨rwW t.lk W, 5, 29⟩ := (kk lb (by omega)).trans klb
  refine loopGo (fun (i : Nat) => [.ptr id 0 0, .unk, .unk, .ptr n 0 0, .ptr (n + 1) 0 0, .int .i64 i]) (fun (i : Nat) => g0) (fun (i : Nat) => n + 1 + 1) (fun (i : Nat) => i ≤ t.lk.length ∧ ∀ j, j < i → ltS (lnm t.lk j) r.nm) (fun (i : Nat) => t.lk.length - i) 0 ?_ ?_ ?_ ?_ ?_
  ·exact ⟨Nat.zero_le _, all0⟩
  ·(repeat first | exact LE.nil _ | refine LE.unk _ _ ?_ | refine LE.eq _ _ _ rfl ?_)
  ·exact LessH.refl _
  ·exact Nat.le_refl _
  intro i hI ih
  have hrw := fun h : i < t.lk.length => rwW_get (W := W) h
  refine lStep (wSeq (wSeq (wDraw [0, 0, 2, 6, 14, 30, 63, 127, 255, 511, 1023, 2047, 255, 8191, 16383, 32767, 255, 65791, 262143, 524287] rfl (by decide +kernel) ?_)))
  refine dmI rfl rfl rfl rfl rfl (dmP rfl rfl rfl rfl rfl (dnc (v := .ptr _ _ _) rfl rfl rfl rfl rfl rfl (dfa (off := 2) (s := 1) (r := false) rfl rfl rfl (Nat.succ_ne_zero _) rfl rfl rfl ?_)))
  (apply dlc (v := .view _ _ _) rfl rfl; exact Q0; exact Q6; rfl; rfl; rfl; rfl; rfl)
  refine dll rfl rfl rfl rfl rfl rfl ?_
  refine dlt rfl rfl rfl rfl rfl rfl ?_ ?_ <;> intro h6_6
  ·refine dmB rfl rfl rfl rfl rfl (dmP rfl rfl rfl rfl rfl (dnc (v := .ptr _ _ _) rfl rfl rfl rfl rfl rfl (dfa (off := 2) (s := 1) (r := false) rfl rfl rfl (Nat.succ_ne_zero _) rfl rfl rfl ?_)))
   (apply dlc (v := .view _ _ _) rfl rfl; exact Q0; exact Q6; rfl; rfl; rfl; rfl; rfl)
   refine dmI rfl rfl rfl rfl rfl ?_
   (refine d0 ((op_index_view (b := ⟨rwW t.lk W, 5, 29⟩) rfl rfl rfl rfl (by exact Q0) rfl (by omega) (by omega)).to (v' := .ptr lb i 0) (by rw [toNat0])) rfl rfl rfl ?_)
   refine dfa (off := 0) (s := 1) (r := false) rfl rfl rfl (Nat.succ_ne_zero _) rfl rfl rfl ?_
   (apply dlc (v := .str (t.lk.getD i Lk0).nm) rfl rfl; exact Q0; exact hrw (by omega); rfl; rfl; rfl; rfl; rfl)
   refine dfa (off := 4) (s := 1) (r := false) rfl rfl rfl (Nat.succ_ne_zero _) rfl rfl rfl ?_
   (apply dlc (v := .str _) rfl rfl; exact Q0; exact Q6; rfl; rfl; rfl; rfl; rfl)
   refine dslt rfl rfl rfl rfl rfl rfl ?_ ?_ <;> intro h6_18
   ·refine dpk (e := true) rfl rfl rfl rfl rfl rfl (dNilR 20 [0, 0, 1, 0, 1, 0, 1, 0, 1, 0, 0, 0, 0, 0, 0, 1, 0, 0, 0, 0] [] rfl rfl (by decide +kernel) trivial ?_)
    refine qSeq (wT rfl (wSkip (qSeq (wBlock (wRegion (rmI rfl rfl rfl rfl rfl (raddF rfl rfl rfl ?_ ?_ rfl rfl rfl ?_)))))))
    ·exact Q5
    ·exact Q5
    refine raI rfl rfl rfl rfl rfl (rNil (qBlock (qLoop ?_)))
    exact wlH (ih (i + 1) ⟨by omega, allS hI.2 h6_18⟩ (by omega)) (by (repeat first | exact LE.nil _ | refine LE.unk _ _ ?_ | refine LE.eq _ _ _ rfl ?_)) (LessH.refl _) (Nat.le_refl _)
   ·refine dpk (e := false) rfl rfl rfl rfl rfl rfl (dNilR 20 [0, 0, 1, 0, 1, 0, 1, 0, 1, 0, 0, 0, 0, 0, 0, 1, 0, 0, 0, 0] [] rfl rfl (by decide +kernel) trivial ?_)
    refine qSeq (wF rfl (wExit (qSeqX (qLoopX (qBlockX (qSeq (wSeq ?_)))))))
    obtain rfl : k = i := by
     rw [← hp]
     first
     | exact pos_eq hI.1 hI.2 (fun _ e => Bool.false_ne_true (h6_18.symm.trans e))
     | exact pos_eq hI.1 hI.2 (fun h => absurd h (by omega))
    refine wRegion (rfa (off := 4) (s := 1) (r := false) rfl rfl rfl (Nat.succ_ne_zero _) rfl rfl rfl ?_)
    (apply rlc (v := .str _) rfl rfl; exact Q0; exact Q6; rfl; rfl; rfl; rfl; rfl)
    refine rbs (es := []) rfl rfl rfl rfl (Nat.succ_ne_zero _) (Nat.le_of_ble_eq_true rfl) rfl rfl rfl rfl rfl (rbd (cs := [.str _, .int _ _, .int _ _, .int _ _, _]) rfl rfl rfl rfl rfl (ral rfl rfl rfl rfl rfl rfl ?_))
    (apply rst (u := .agg [.str _, .int _ _, .int _ _, .int _ _, _]) rfl rfl rfl; exact Q0; exact Q6; rfl; rfl; rfl; rfl; (exact Nat.le_of_ble_eq_true rfl); rfl; rfl; rfl)
    refine rNil (qSeq (wDraw [0, 0, 0, 4, 12, 28, 0, 124, 254, 0, 512, 2046, 0, 4096, 12288, 28672, 0, 126976, 262142, 524287, 1048575, 2097151] rfl (by decide +kernel) ?_))
    refine dmP rfl rfl rfl rfl rfl (dbs (es := []) rfl rfl rfl rfl (Nat.succ_ne_zero _) (Nat.le_of_ble_eq_true rfl) rfl rfl rfl rfl rfl (dmP rfl rfl rfl rfl rfl (dnc (v := .ptr _ _ _) rfl rfl rfl rfl rfl rfl (dfa (off := 2) (s := 1) (r := false) rfl rfl rfl (Nat.succ_ne_zero _) rfl rfl rfl ?_))))
    (apply dlc (v := .view _ _ _) rfl rfl; exact Q0; exact Q6; rfl; rfl; rfl; rfl; rfl)
    refine dmI rfl rfl rfl rfl rfl ?_
    (apply dslv rfl rfl rfl; exact Q0; rfl; rfl; rfl; exact Q5; exact Q5; exact Q5; rfl; rfl; rfl)
    (apply dap (s' := 64)  rfl rfl; exact Q0; rfl; rfl; exact Q28; rfl; rfl; exact (Nat.succ_ne_zero _); exact Q25; exact Q19; exact Q9; exact Q9; rfl; rfl; rfl)
    (apply dlr (vs := [.str _, .int _ _, .int _ _, .int _ _, _]) rfl rfl; exact Q0; exact Q6; rfl; (exact Nat.le_of_ble_eq_true rfl); rfl; rfl; rfl; rfl)
    refine dbs (es := [[.str _, .int _ _, .int _ _, .int _ _, _]]) rfl rfl rfl rfl (Nat.succ_ne_zero _) (Nat.le_of_ble_eq_true rfl) rfl rfl rfl rfl rfl ?_
    (apply dap (s' := 64) (es := [[.str _, .int _ _, .int _ _, .int _ _, _]]) rfl rfl; exact Q0; rfl; rfl; exact Q28; rfl; rfl; exact (Nat.succ_ne_zero _); exact Q25; exact Q19; exact Q9; exact Q9; rfl; rfl; rfl)
    refine dmP rfl rfl rfl rfl rfl (dnc (v := .ptr _ _ _) rfl rfl rfl rfl rfl rfl (dfa (off := 2) (s := 1) (r := false) rfl rfl rfl (Nat.succ_ne_zero _) rfl rfl rfl ?_))
    (apply dlc (v := .view _ _ _) rfl rfl; exact Q0; exact Q6; rfl; rfl; rfl; rfl; rfl)
    refine dmI rfl rfl rfl rfl rfl ?_
    (apply dslv rfl rfl rfl; exact Q0; rfl; rfl; rfl; exact Q5; exact Q5; exact Q5; rfl; rfl; rfl)
    (apply dap (s' := 64)  rfl rfl; exact Q0; rfl; rfl; exact Q28; rfl; rfl; exact (Nat.succ_ne_zero _); exact Q25; exact Q19; exact Q9; exact Q9; rfl; rfl; rfl)
    refine dnc (v := .ptr _ _ _) rfl rfl rfl rfl rfl rfl (dfa (off := 2) (s := 1) (r := false) rfl rfl rfl (Nat.succ_ne_zero _) rfl rfl rfl ?_)
    (apply dst (u := .view _ _ _) rfl rfl rfl; exact Q0; exact Q6; rfl; rfl; rfl; rfl; (exact Nat.le_of_ble_eq_true rfl); rfl; rfl; rfl)
    refine dNilR 22 [3, 0, 0, 3, 1, 0, 1, 0, 0, 0, 3, 3, 1, 3, 1, 0, 1, 0, 0, 0, 3, 0] [(1, 5), (1, 7), (1, 9), (8, 9), (1, 10), (5, 10), (7, 10), (8, 10), (1, 15), (8, 15), (10, 15), (11, 15), (1, 17), (8, 17), (10, 17), (11, 17)] rfl rfl (by decide +kernel) ?_ ?_
    ·(simp [ClearL, ids, srcIds, Env.eval, upd]; try omega)
    refine qSeq (wSeq ?_)
    refine wpG fun g1 hg1 => ?_
    have kI : g1 (n + 1 + 1 + 1 + 1 + 1 + 1 + 1 + 1) = some ⟨((rwW t.lk W).take k ++ [.str r.nm, .int .i64 0, .int .i64 (-1), .int .i64 0, (.view (n + 1 + 1) 0 0)] :: (rwW t.lk W).drop k), 5, 29⟩ := by
     rw [hg1]; (simp (disch := (first | omega | assumption)) only [↓appC, ↓updN, ↓updS, ↓app0])
     refine congrArg (fun z => some (Blk.mk z 5 29)) ?_
     exact insRows (rwW_len _ _) hk rfl
    have q0 : g1 n = some ⟨[[.int .i64 r.cl, .int .i64 r.st, .int .i64 r.kd, .int .i64 r.le, .str r.nm]], 5, 64⟩ := by rw [hg1]; (simp (disch := (first | omega | assumption)) only [↓appC, ↓updN, ↓updS, ↓app0]); exact k0
    have q1 : g1 (n + 1) = some ⟨[[.int .i64 0, .int .i64 0, .int .i64 0, .int .i64 0]], 4, 60⟩ := by rw [hg1]; (simp (disch := (first | omega | assumption)) only [↓appC, ↓updN, ↓updS, ↓app0]); exact k1
    have q2 : g1 id = some ⟨[[.int .i64 t.tm, .int .i64 t.nx, .view (n + 1 + 1 + 1 + 1 + 1 + 1 + 1 + 1) 0 (t.lk.length + 1), Ss]], 4, 35⟩ := by
     rw [hg1]; (simp (disch := (first | omega | assumption)) only [↓appC, ↓updN, ↓updS, ↓app0])
     exact congrArg (fun z => some (Blk.mk [[.int .i64 t.tm, .int .i64 t.nx, .view (n + 1 + 1 + 1 + 1 + 1 + 1 + 1 + 1) 0 z, Ss]] 4 35)) (insLen (rwW_len _ _) hk)
    have qW : g1 (n + 1 + 1) = some ⟨[], 2, 123⟩ := by rw [hg1]; (simp (disch := (first | omega | assumption)) only [↓appC, ↓updN, ↓updS, ↓app0]); rfl
    have qk : ∀ a, a < n → a ≠ id → g1 a = h a := fun a ha hne => by rw [hg1]; (simp (disch := (first | omega | assumption)) only [↓appC, ↓updN, ↓updS, ↓app0]); exact kk a ha
    have qc : Ch h g1 := by rw [hg1]; (repeat first | exact Ch.refl _ | exact kc | refine Ch.upd ?_ | refine Ch.app ?_)
    refine wRegion (rmP rfl rfl rfl rfl rfl (rnc (v := .ptr _ _ _) rfl rfl rfl rfl rfl rfl (rfa (off := 2) (s := 1) (r := false) rfl rfl rfl (Nat.succ_ne_zero _) rfl rfl rfl ?_)))
    (apply rlc (v := .view _ _ _) rfl rfl; exact Q0; exact Q6; rfl; rfl; rfl; rfl; rfl)
    refine rmI rfl rfl rfl rfl rfl ?_
    (refine r0 ((op_index_view (b := ⟨((rwW t.lk W).take k ++ [.str r.nm, .int .i64 0, .int .i64 (-1), .int .i64 0, (.view (n + 1 + 1) 0 0)] :: (rwW t.lk W).drop k), 5, 29⟩) rfl rfl rfl rfl (by exact Q0) rfl (by omega) (by omega)).to (v' := .ptr (n + 1 + 1 + 1 + 1 + 1 + 1 + 1 + 1) k 0) (by first | rw [toNat0] | rfl)) rfl rfl rfl ?_)
    refine raP rfl rfl rfl rfl rfl (rNil (qSeq (wSeq (wBlock (wSeq (wDraw [0, 1, 3, 7, 0, 16, 63, 127, 255, 511, 1023, 255, 2303, 8191, 16383, 32767, 65535] rfl (by decide +kernel) ?_))))))
    refine dmP rfl rfl rfl rfl rfl (dnc (v := .ptr _ _ _) rfl rfl rfl rfl rfl rfl (dfa (off := 2) (s := 1) (r := false) rfl rfl rfl (Nat.succ_ne_zero _) rfl rfl rfl ?_))
    (apply dlc (v := .int _ _) rfl rfl; exact Q0; exact Q6; rfl; rfl; rfl; rfl; rfl)
    refine dfa (off := 0) (s := 1) (r := false) rfl rfl rfl (Nat.succ_ne_zero _) rfl rfl rfl ?_
    (apply dlc (v := .int _ _) rfl rfl; exact Q0; exact Q6; rfl; rfl; rfl; rfl; rfl)
    refine deq rfl rfl rfl rfl rfl rfl (fun h => absurd h (by omega)) ?_
    intro h11_6
    refine dmB rfl rfl rfl rfl rfl (dmP rfl rfl rfl rfl rfl (dnc (v := .ptr _ _ _) rfl rfl rfl rfl rfl rfl ?_))
    (apply dlr (vs := [.str _, .int _ _, .int _ _, .int _ _, _]) rfl rfl; exact Q0; exact Q6; rfl; (exact Nat.le_of_ble_eq_true rfl); rfl; rfl; rfl; rfl)
    refine dfa (off := 0) (s := 1) (r := false) rfl rfl rfl (Nat.succ_ne_zero _) rfl rfl rfl ?_
    (apply dlc (v := .int _ _) rfl rfl; exact Q0; exact Q6; rfl; rfl; rfl; rfl; rfl)
    apply dclS [n + 1 + 1] (s131 ⟨r.nm, 0, -1, 0, []⟩ false r.cl (Nat.zero_le _)) rfl rfl rfl
    ·exact SnapL.cons _ _ _ _ (SnapC.agg (.cons _ _ _ _ (.str _) (.cons _ _ _ _ (.int _ _) (.cons _ _ _ _ (.int _ _) (.cons _ _ _ _ (.int _ _) (.cons _ _ _ _ (snapIsL (L := []) (.inr ⟨n + 1 + 1, [], rfl, by exact Q0⟩) (fun a ha => by cases ha; exact List.mem_singleton.2 rfl)) .nil)))))) (SnapL.cons _ _ _ _ (.one _ _ (.int _ _)) SnapL.nil)
    ·rfl
    ·rfl
    ·rfl
    refine dge rfl rfl rfl rfl rfl rfl (fun h => absurd h ((by show ¬ ((-1 : Int) ≥ 0); decide))) ?_
    intro h11_14
    refine dpk (e := false) rfl rfl rfl rfl rfl rfl (daB rfl rfl rfl rfl rfl (dNilR 17 [0, 0, 0, 1, 1, 0, 1, 0, 0, 0, 0, 1, 0, 1, 0, 0, 0] [] rfl rfl (by decide +kernel) trivial ?_))
    refine qSeq (wF rfl (wSeq (wRegion (rmP rfl rfl rfl rfl rfl (rnc (v := .ptr _ _ _) rfl rfl rfl rfl rfl rfl (rfa (off := 2) (s := 1) (r := false) rfl rfl rfl (Nat.succ_ne_zero _) rfl rfl rfl ?_))))))
    (apply rlc (v := .int _ _) rfl rfl; exact Q0; exact Q6; rfl; rfl; rfl; rfl; rfl)
    refine rlt rfl rfl rfl rfl rfl rfl ?_ (fun h => absurd ((by show (-1 : Int) < 0; decide)) h)
    intro h13_4
    refine raB rfl rfl rfl rfl rfl (rNil (qSeq (wT rfl (wSeq (wRegion (rmP rfl rfl rfl rfl rfl (rmI rfl rfl rfl rfl rfl (rfa (off := 0) (s := 1) (r := false) rfl rfl rfl (Nat.succ_ne_zero _) rfl rfl rfl ?_))))))))
    (apply rlc (v := .int _ _) rfl rfl; exact Q0; exact Q6; rfl; rfl; rfl; rfl; rfl)
    refine rfa (off := 3) (s := 1) (r := false) rfl rfl rfl (Nat.succ_ne_zero _) rfl rfl rfl ?_
    (apply rlc (v := .int _ _) rfl rfl; exact Q0; exact Q6; rfl; rfl; rfl; rfl; rfl)
    refine rop (o124k r.nm 0 (-1) 0 t.tm t.nx r.cl r.le (.view (n + 1 + 1) 0 0) Ss rfl htm (by omega) hle (id := id) (lb := n + 1 + 1 + 1 + 1 + 1 + 1 + 1 + 1) (j := k) (len := t.lk.length + 1) (R := ((rwW t.lk W).take k ++ [.str r.nm, .int .i64 0, .int .i64 (-1), .int .i64 0, (.view (n + 1 + 1) 0 0)] :: (rwW t.lk W).drop k)) (by omega) (by omega) (by omega) q2 (by omega) hRI kI hrow) rfl rfl rfl rfl rfl rfl ?_
    refine rNil (qSeq (wSeq (wRegion (rmP rfl rfl rfl rfl rfl (rnc (v := .ptr _ _ _) rfl rfl rfl rfl rfl rfl (rfa (off := 2) (s := 1) (r := false) rfl rfl rfl (Nat.succ_ne_zero _) rfl rfl rfl ?_))))))
    (apply rlc (v := .view _ _ _) rfl rfl; exact Q0; exact Q6; rfl; rfl; rfl; rfl; rfl)
    refine rmI rfl rfl rfl rfl rfl ?_
    (refine r0 ((op_index_view (b := ⟨(((rwW t.lk W).take k ++ [.str r.nm, .int .i64 0, .int .i64 (-1), .int .i64 0, (.view (n + 1 + 1) 0 0)] :: (rwW t.lk W).drop k).set k [.str r.nm, .int .i64 t.nx, .int .i64 r.cl, .int .i64 (t.tm + r.le), (.view (n + 1 + 1) 0 0)]), 5, 29⟩) rfl rfl rfl rfl (by exact Q0) rfl (by omega) (by omega)).to (v' := .ptr (n + 1 + 1 + 1 + 1 + 1 + 1 + 1 + 1) k 0) (by first | rw [toNat0] | rfl)) rfl rfl rfl ?_)
    (apply rlr (vs := [.str _, .int _ _, .int _ _, .int _ _, _]) rfl rfl; exact Q0; exact Q6; rfl; (exact Nat.le_of_ble_eq_true rfl); rfl; rfl; rfl; rfl)
    apply rclS [n + 1 + 1] (s130 ⟨r.nm, t.nx, r.cl, t.tm + r.le, []⟩ false 1) rfl rfl rfl
    ·exact SnapL.cons _ _ _ _ (.one _ _ (.int _ _)) (SnapL.cons _ _ _ _ (SnapC.agg (.cons _ _ _ _ (.str _) (.cons _ _ _ _ (.int _ _) (.cons _ _ _ _ (.int _ _) (.cons _ _ _ _ (.int _ _) (.cons _ _ _ _ (snapIsL (L := []) (.inr ⟨n + 1 + 1, [], rfl, by exact Q0⟩) (fun a ha => by cases ha; exact List.mem_singleton.2 rfl)) .nil)))))) SnapL.nil)
    ·rfl
    ·rfl
    ·rfl
    (apply rst (u := .agg [.int _ _, .int _ _, .int _ _, .int _ _]) rfl rfl rfl; exact Q0; exact Q6; rfl; rfl; rfl; rfl; (exact Nat.le_of_ble_eq_true rfl); rfl; rfl; rfl)
    refine rNil (qSeq (wRet (qBlockR (qSeqR (finM (resL_cons (resV_row rfl (by exact Q0) rfl rfl (Nat.le_of_ble_eq_true rfl) rfl) resL_nil) (by (repeat first | exact Ch.refl _ | exact qc | refine Ch.upd ?_ | refine Ch.app ?_)) ?_)))))
    rw [acqT_new hh (by omega), hp]
    refine ⟨rfl, T.insS hk ⟨r.nm, t.nx, r.cl, t.tm + r.le, []⟩ (.view (n + 1 + 1) 0 0) (t.nx + 1) (n + 1 + 1 + 1 + 1 + 1 + 1 + 1 + 1) (by omega) ⟨by omega, by omega⟩ ?_ ?_ (.inr ⟨n + 1 + 1, [], rfl, ?_⟩) (fun a ha => by cases ha; exact ⟨by omega, by omega, by omega⟩) ?_⟩
    ·exact Q0
    ·(simp (disch := (first | omega | assumption)) only [↓appC, ↓updN, ↓updS, ↓app0])
     exact congrArg (fun z => some (Blk.mk z 5 29)) (set_mid hA)
    ·exact Q0
    ·intro a ha h1 h2
     (simp (disch := (first | omega | assumption)) only [↓appC, ↓updN, ↓updS, ↓app0]); exact qk a ha h1
  ·refine dmB rfl rfl rfl rfl rfl (dSkip rfl rfl rfl (dSkip rfl rfl rfl (dSkip rfl rfl rfl (dSkip rfl rfl rfl (dSkip rfl rfl rfl (dSkip rfl rfl rfl (dSkip rfl rfl rfl (dSkip rfl rfl rfl (dSkip rfl rfl rfl (dSkip rfl rfl rfl (dSkip rfl rfl rfl (dpk (e := false) rfl rfl rfl rfl rfl rfl ?_))))))))))))
   refine dNilR 20 [0, 0, 0, 0, 0, 0, 0, 0, 0, 0, 0, 0, 0, 0, 0, 1, 0, 0, 0, 0] [] rfl rfl (by decide +kernel) trivial ?_
   refine qSeq (wF rfl (wExit (qSeqX (qLoopX (qBlockX (qSeq (wSeq ?_)))))))
   obtain rfl : k = i := by
    rw [← hp]
    first
    | exact pos_eq hI.1 hI.2 (fun _ e => Bool.false_ne_true (h6_18.symm.trans e))
    | exact pos_eq hI.1 hI.2 (fun h => absurd h (by omega))
   refine wRegion (rfa (off := 4) (s := 1) (r := false) rfl rfl rfl (Nat.succ_ne_zero _) rfl rfl rfl ?_)
   (apply rlc (v := .str _) rfl rfl; exact Q0; exact Q6; rfl; rfl; rfl; rfl; rfl)
   refine rbs (es := []) rfl rfl rfl rfl (Nat.succ_ne_zero _) (Nat.le_of_ble_eq_true rfl) rfl rfl rfl rfl rfl (rbd (cs := [.str _, .int _ _, .int _ _, .int _ _, _]) rfl rfl rfl rfl rfl (ral rfl rfl rfl rfl rfl rfl ?_))
   (apply rst (u := .agg [.str _, .int _ _, .int _ _, .int _ _, _]) rfl rfl rfl; exact Q0; exact Q6; rfl; rfl; rfl; rfl; (exact Nat.le_of_ble_eq_true rfl); rfl; rfl; rfl)
   refine rNil (qSeq (wDraw [0, 0, 0, 4, 12, 28, 0, 124, 254, 0, 512, 2046, 0, 4096, 12288, 28672, 0, 126976, 262142, 524287, 1048575, 2097151] rfl (by decide +kernel) ?_))
   refine dmP rfl rfl rfl rfl rfl (dbs (es := []) rfl rfl rfl rfl (Nat.succ_ne_zero _) (Nat.le_of_ble_eq_true rfl) rfl rfl rfl rfl rfl (dmP rfl rfl rfl rfl rfl (dnc (v := .ptr _ _ _) rfl rfl rfl rfl rfl rfl (dfa (off := 2) (s := 1) (r := false) rfl rfl rfl (Nat.succ_ne_zero _) rfl rfl rfl ?_))))
   (apply dlc (v := .view _ _ _) rfl rfl; exact Q0; exact Q6; rfl; rfl; rfl; rfl; rfl)
   refine dmI rfl rfl rfl rfl rfl ?_
   (apply dslv rfl rfl rfl; exact Q0; rfl; rfl; rfl; exact Q5; exact Q5; exact Q5; rfl; rfl; rfl)
   (apply dap (s' := 64)  rfl rfl; exact Q0; rfl; rfl; exact Q28; rfl; rfl; exact (Nat.succ_ne_zero _); exact Q25; exact Q19; exact Q9; exact Q9; rfl; rfl; rfl)
   (apply dlr (vs := [.str _, .int _ _, .int _ _, .int _ _, _]) rfl rfl; exact Q0; exact Q6; rfl; (exact Nat.le_of_ble_eq_true rfl); rfl; rfl; rfl; rfl)
   refine dbs (es := [[.str _, .int _ _, .int _ _, .int _ _, _]]) rfl rfl rfl rfl (Nat.succ_ne_zero _) (Nat.le_of_ble_eq_true rfl) rfl rfl rfl rfl rfl ?_
   (apply dap (s' := 64) (es := [[.str _, .int _ _, .int _ _, .int _ _, _]]) rfl rfl; exact Q0; rfl; rfl; exact Q28; rfl; rfl; exact (Nat.succ_ne_zero _); exact Q25; exact Q19; exact Q9; exact Q9; rfl; rfl; rfl)
   refine dmP rfl rfl rfl rfl rfl (dnc (v := .ptr _ _ _) rfl rfl rfl rfl rfl rfl (dfa (off := 2) (s := 1) (r := false) rfl rfl rfl (Nat.succ_ne_zero _) rfl rfl rfl ?_))
   (apply dlc (v := .view _ _ _) rfl rfl; exact Q0; exact Q6; rfl; rfl; rfl; rfl; rfl)
   refine dmI rfl rfl rfl rfl rfl ?_
   (apply dslv rfl rfl rfl; exact Q0; rfl; rfl; rfl; exact Q5; exact Q5; exact Q5; rfl; rfl; rfl)
   (apply dap (s' := 64)  rfl rfl; exact Q0; rfl; rfl; exact Q28; rfl; rfl; exact (Nat.succ_ne_zero _); exact Q25; exact Q19; exact Q9; exact Q9; rfl; rfl; rfl)
   refine dnc (v := .ptr _ _ _) rfl rfl rfl rfl rfl rfl (dfa (off := 2) (s := 1) (r := false) rfl rfl rfl (Nat.succ_ne_zero _) rfl rfl rfl ?_)
   (apply dst (u := .view _ _ _) rfl rfl rfl; exact Q0; exact Q6; rfl; rfl; rfl; rfl; (exact Nat.le_of_ble_eq_true rfl); rfl; rfl; rfl)
   refine dNilR 22 [3, 0, 0, 3, 1, 0, 1, 0, 0, 0, 3, 3, 1, 3, 1, 0, 1, 0, 0, 0, 3, 0] [(1, 5), (1, 7), (1, 9), (8, 9), (1, 10), (5, 10), (7, 10), (8, 10), (1, 15), (8, 15), (10, 15), (11, 15), (1, 17), (8, 17), (10, 17), (11, 17)] rfl rfl (by decide +kernel) ?_ ?_
   ·(simp [ClearL, ids, srcIds, Env.eval, upd]; try omega)
   refine qSeq (wSeq ?_)
   refine wpG fun g1 hg1 => ?_
   have kI : g1 (n + 1 + 1 + 1 + 1 + 1 + 1 + 1 + 1) = some ⟨((rwW t.lk W).take k ++ [.str r.nm, .int .i64 0, .int .i64 (-1), .int .i64 0, (.view (n + 1 + 1) 0 0)] :: (rwW t.lk W).drop k), 5, 29⟩ := by
    rw [hg1]; (simp (disch := (first | omega | assumption)) only [↓appC, ↓updN, ↓updS, ↓app0])
    refine congrArg (fun z => some (Blk.mk z 5 29)) ?_
    exact insRows (rwW_len _ _) hk rfl
   have q0 : g1 n = some ⟨[[.int .i64 r.cl, .int .i64 r.st, .int .i64 r.kd, .int .i64 r.le, .str r.nm]], 5, 64⟩ := by rw [hg1]; (simp (disch := (first | omega | assumption)) only [↓appC, ↓updN, ↓updS, ↓app0]); exact k0
   have q1 : g1 (n + 1) = some ⟨[[.int .i64 0, .int .i64 0, .int .i64 0, .int .i64 0]], 4, 60⟩ := by rw [hg1]; (simp (disch := (first | omega | assumption)) only [↓appC, ↓updN, ↓updS, ↓app0]); exact k1
   have q2 : g1 id = some ⟨[[.int .i64 t.tm, .int .i64 t.nx, .view (n + 1 + 1 + 1 + 1 + 1 + 1 + 1 + 1) 0 (t.lk.length + 1), Ss]], 4, 35⟩ := by
    rw [hg1]; (simp (disch := (first | omega | assumption)) only [↓appC, ↓updN, ↓updS, ↓app0])
    exact congrArg (fun z => some (Blk.mk [[.int .i64 t.tm, .int .i64 t.nx, .view (n + 1 + 1 + 1 + 1 + 1 + 1 + 1 + 1) 0 z, Ss]] 4 35)) (insLen (rwW_len _ _) hk)
   have qW : g1 (n + 1 + 1) = some ⟨[], 2, 123⟩ := by rw [hg1]; (simp (disch := (first | omega | assumption)) only [↓appC, ↓updN, ↓updS, ↓app0]); rfl
   have qk : ∀ a, a < n → a ≠ id → g1 a = h a := fun a ha hne => by rw [hg1]; (simp (disch := (first | omega | assumption)) only [↓appC, ↓updN, ↓updS, ↓app0]); exact kk a ha
   have qc : Ch h g1 := by rw [hg1]; (repeat first | exact Ch.refl _ | exact kc | refine Ch.upd ?_ | refine Ch.app ?_)
   refine wRegion (rmP rfl rfl rfl rfl rfl (rnc (v := .ptr _ _ _) rfl rfl rfl rfl rfl rfl (rfa (off := 2) (s := 1) (r := false) rfl rfl rfl (Nat.succ_ne_zero _) rfl rfl rfl ?_)))
   (apply rlc (v := .view _ _ _) rfl rfl; exact Q0; exact Q6; rfl; rfl; rfl; rfl; rfl)
   refine rmI rfl rfl rfl rfl rfl ?_
   (refine r0 ((op_index_view (b := ⟨((rwW t.lk W).take k ++ [.str r.nm, .int .i64 0, .int .i64 (-1), .int .i64 0, (.view (n + 1 + 1) 0 0)] :: (rwW t.lk W).drop k), 5, 29⟩) rfl rfl rfl rfl (by exact Q0) rfl (by omega) (by omega)).to (v' := .ptr (n + 1 + 1 + 1 + 1 + 1 + 1 + 1 + 1) k 0) (by first | rw [toNat0] | rfl)) rfl rfl rfl ?_)
   refine raP rfl rfl rfl rfl rfl (rNil (qSeq (wSeq (wBlock (wSeq (wDraw [0, 1, 3, 7, 0, 16, 63, 127, 255, 511, 1023, 255, 2303, 8191, 16383, 32767, 65535] rfl (by decide +kernel) ?_))))))
   refine dmP rfl rfl rfl rfl rfl (dnc (v := .ptr _ _ _) rfl rfl rfl rfl rfl rfl (dfa (off := 2) (s := 1) (r := false) rfl rfl rfl (Nat.succ_ne_zero _) rfl rfl rfl ?_))
   (apply dlc (v := .int _ _) rfl rfl; exact Q0; exact Q6; rfl; rfl; rfl; rfl; rfl)
   refine dfa (off := 0) (s := 1) (r := false) rfl rfl rfl (Nat.succ_ne_zero _) rfl rfl rfl ?_
   (apply dlc (v := .int _ _) rfl rfl; exact Q0; exact Q6; rfl; rfl; rfl; rfl; rfl)
   refine deq rfl rfl rfl rfl rfl rfl (fun h => absurd h (by omega)) ?_
   intro h11_6
   refine dmB rfl rfl rfl rfl rfl (dmP rfl rfl rfl rfl rfl (dnc (v := .ptr _ _ _) rfl rfl rfl rfl rfl rfl ?_))
   (apply dlr (vs := [.str _, .int _ _, .int _ _, .int _ _, _]) rfl rfl; exact Q0; exact Q6; rfl; (exact Nat.le_of_ble_eq_true rfl); rfl; rfl; rfl; rfl)
   refine dfa (off := 0) (s := 1) (r := false) rfl rfl rfl (Nat.succ_ne_zero _) rfl rfl rfl ?_
   (apply dlc (v := .int _ _) rfl rfl; exact Q0; exact Q6; rfl; rfl; rfl; rfl; rfl)
   apply dclS [n + 1 + 1] (s131 ⟨r.nm, 0, -1, 0, []⟩ false r.cl (Nat.zero_le _)) rfl rfl rfl
   ·exact SnapL.cons _ _ _ _ (SnapC.agg (.cons _ _ _ _ (.str _) (.cons _ _ _ _ (.int _ _) (.cons _ _ _ _ (.int _ _) (.cons _ _ _ _ (.int _ _) (.cons _ _ _ _ (snapIsL (L := []) (.inr ⟨n + 1 + 1, [], rfl, by exact Q0⟩) (fun a ha => by cases ha; exact List.mem_singleton.2 rfl)) .nil)))))) (SnapL.cons _ _ _ _ (.one _ _ (.int _ _)) SnapL.nil)
   ·rfl
   ·rfl
   ·rfl
   refine dge rfl rfl rfl rfl rfl rfl (fun h => absurd h ((by show ¬ ((-1 : Int) ≥ 0); decide))) ?_
   intro h11_14
   refine dpk (e := false) rfl rfl rfl rfl rfl rfl (daB rfl rfl rfl rfl rfl (dNilR 17 [0, 0, 0, 1, 1, 0, 1, 0, 0, 0, 0, 1, 0, 1, 0, 0, 0] [] rfl rfl (by decide +kernel) trivial ?_))
   refine qSeq (wF rfl (wSeq (wRegion (rmP rfl rfl rfl rfl rfl (rnc (v := .ptr _ _ _) rfl rfl rfl rfl rfl rfl (rfa (off := 2) (s := 1) (r := false) rfl rfl rfl (Nat.succ_ne_zero _) rfl rfl rfl ?_))))))
   (apply rlc (v := .int _ _) rfl rfl; exact Q0; exact Q6; rfl; rfl; rfl; rfl; rfl)
   refine rlt rfl rfl rfl rfl rfl rfl ?_ (fun h => absurd ((by show (-1 : Int) < 0; decide)) h)
   intro h13_4
   refine raB rfl rfl rfl rfl rfl (rNil (qSeq (wT rfl (wSeq (wRegion (rmP rfl rfl rfl rfl rfl (rmI rfl rfl rfl rfl rfl (rfa (off := 0) (s := 1) (r := false) rfl rfl rfl (Nat.succ_ne_zero _) rfl rfl rfl ?_))))))))
   (apply rlc (v := .int _ _) rfl rfl; exact Q0; exact Q6; rfl; rfl; rfl; rfl; rfl)
   refine rfa (off := 3) (s := 1) (r := false) rfl rfl rfl (Nat.succ_ne_zero _) rfl rfl rfl ?_
   (apply rlc (v := .int _ _) rfl rfl; exact Q0; exact Q6; rfl; rfl; rfl; rfl; rfl)
   refine rop (o124k r.nm 0 (-1) 0 t.tm t.nx r.cl r.le (.view (n + 1 + 1) 0 0) Ss rfl htm (by omega) hle (id := id) (lb := n + 1 + 1 + 1 + 1 + 1 + 1 + 1 + 1) (j := k) (len := t.lk.length + 1) (R := ((rwW t.lk W).take k ++ [.str r.nm, .int .i64 0, .int .i64 (-1), .int .i64 0, (.view (n + 1 + 1) 0 0)] :: (rwW t.lk W).drop k)) (by omega) (by omega) (by omega) q2 (by omega) hRI kI hrow) rfl rfl rfl rfl rfl rfl ?_
   refine rNil (qSeq (wSeq (wRegion (rmP rfl rfl rfl rfl rfl (rnc (v := .ptr _ _ _) rfl rfl rfl rfl rfl rfl (rfa (off := 2) (s := 1) (r := false) rfl rfl rfl (Nat.succ_ne_zero _) rfl rfl rfl ?_))))))
   (apply rlc (v := .view _ _ _) rfl rfl; exact Q0; exact Q6; rfl; rfl; rfl; rfl; rfl)
   refine rmI rfl rfl rfl rfl rfl ?_
   (refine r0 ((op_index_view (b := ⟨(((rwW t.lk W).take k ++ [.str r.nm, .int .i64 0, .int .i64 (-1), .int .i64 0, (.view (n + 1 + 1) 0 0)] :: (rwW t.lk W).drop k).set k [.str r.nm, .int .i64 t.nx, .int .i64 r.cl, .int .i64 (t.tm + r.le), (.view (n + 1 + 1) 0 0)]), 5, 29⟩) rfl rfl rfl rfl (by exact Q0) rfl (by omega) (by omega)).to (v' := .ptr (n + 1 + 1 + 1 + 1 + 1 + 1 + 1 + 1) k 0) (by first | rw [toNat0] | rfl)) rfl rfl rfl ?_)
   (apply rlr (vs := [.str _, .int _ _, .int _ _, .int _ _, _]) rfl rfl; exact Q0; exact Q6; rfl; (exact Nat.le_of_ble_eq_true rfl); rfl; rfl; rfl; rfl)
   apply rclS [n + 1 + 1] (s130 ⟨r.nm, t.nx, r.cl, t.tm + r.le, []⟩ false 1) rfl rfl rfl
   ·exact SnapL.cons _ _ _ _ (.one _ _ (.int _ _)) (SnapL.cons _ _ _ _ (SnapC.agg (.cons _ _ _ _ (.str _) (.cons _ _ _ _ (.int _ _) (.cons _ _ _ _ (.int _ _) (.cons _ _ _ _ (.int _ _) (.cons _ _ _ _ (snapIsL (L := []) (.inr ⟨n + 1 + 1, [], rfl, by exact Q0⟩) (fun a ha => by cases ha; exact List.mem_singleton.2 rfl)) .nil)))))) SnapL.nil)
   ·rfl
   ·rfl
   ·rfl
   (apply rst (u := .agg [.int _ _, .int _ _, .int _ _, .int _ _]) rfl rfl rfl; exact Q0; exact Q6; rfl; rfl; rfl; rfl; (exact Nat.le_of_ble_eq_true rfl); rfl; rfl; rfl)
   refine rNil (qSeq (wRet (qBlockR (qSeqR (finM (resL_cons (resV_row rfl (by exact Q0) rfl rfl (Nat.le_of_ble_eq_true rfl) rfl) resL_nil) (by (repeat first | exact Ch.refl _ | exact qc | refine Ch.upd ?_ | refine Ch.app ?_)) ?_)))))
   rw [acqT_new hh (by omega), hp]
   refine ⟨rfl, T.insS hk ⟨r.nm, t.nx, r.cl, t.tm + r.le, []⟩ (.view (n + 1 + 1) 0 0) (t.nx + 1) (n + 1 + 1 + 1 + 1 + 1 + 1 + 1 + 1) (by omega) ⟨by omega, by omega⟩ ?_ ?_ (.inr ⟨n + 1 + 1, [], rfl, ?_⟩) (fun a ha => by cases ha; exact ⟨by omega, by omega, by omega⟩) ?_⟩
   ·exact Q0
   ·(simp (disch := (first | omega | assumption)) only [↓appC, ↓updN, ↓updS, ↓app0])
    exact congrArg (fun z => some (Blk.mk z 5 29)) (set_mid hA)
   ·exact Q0
   ·intro a ha h1 h2
    (simp (disch := (first | omega | assumption)) only [↓appC, ↓updN, ↓updS, ↓app0]); exact qk a ha h1
theorem o129z (t : Tb) (r : Rq) (bd : Bd t r) (hh : ¬ hit r.nm t.lk) (hp : pos r.nm t.lk = 0) {id : Nat} {Ss : V} {W : Nat → V} {h : Heap} {n : Nat} (hz : t.lk.length = 0) (T : TabM t id .nsl Ss W h n) : OpenM En 129 [.ptr id 0 0, .agg [.int .i64 r.cl, .int .i64 r.st, .int .i64 r.kd, .int .i64 r.le, .str r.nm]] h n (fun v g m => v = .agg (acqT t r).2.V ∧ TabS (acqT t r).1 id (OwnT id .nsl Ss W t.lk.length) n h g m) := by
 have hid := T.idn
 have kid := T.kid
 have hl4 := bd.l4; have htm := bd.tm; have hnx := bd.nx; have hcl := bd.cl; have hle := bd.le
 have hf := s43 t false false false r.nm bd.srt (by omega)
 rw [fix_no hh] at hf
 have hk : 0 ≤ t.lk.length := by rw [← hp]; exact pos_le _ _
 have hsl := T.fl
 have hkl := T.kl
 have hA : ((rwW t.lk W).take 0).length = 0 := by rw [List.length_take, rwW_len]; omega
 have hRI : 0 < ((rwW t.lk W).take 0 ++ [.str r.nm, .int .i64 0, .int .i64 (-1), .int .i64 0, (.view (n + 1 + 1) 0 0)] :: (rwW t.lk W).drop 0).length := by rw [List.length_append, hA, List.length_cons]; omega
 have hrow : ((rwW t.lk W).take 0 ++ [.str r.nm, .int .i64 0, .int .i64 (-1), .int .i64 0, (.view (n + 1 + 1) 0 0)] :: (rwW t.lk W).drop 0)[0]? = some [.str r.nm, .int .i64 0, .int .i64 (-1), .int .i64 0, (.view (n + 1 + 1) 0 0)] := get_mid hA
 have hR0 : rwW t.lk W = [] := List.eq_nil_of_length_eq_zero (by rw [rwW_len, hz])
 refine OpenM.of_wp Try.func129 rfl (Nat.le_of_ble_eq_true rfl) ?_
 refine wSeq (wRegion (rbx (u := .agg [.int _ _, .int _ _, .int _ _, .int _ _, .str _]) rfl rfl rfl rfl rfl rfl rfl (ral rfl rfl rfl rfl rfl rfl (rNil (qSeq (wSeq (wDraw [0, 1, 3, 0, 8, 31, 63] rfl (by decide +kernel) ?_)))))))
 refine dmP rfl rfl rfl rfl rfl (dnc (v := .ptr _ _ _) rfl rfl rfl rfl rfl rfl ?_)
 (apply dlr (vs := [.int _ _, .int _ _, _, _]) rfl rfl; exact Q0; exact Q6; rfl; (exact Nat.le_of_ble_eq_true rfl); rfl; rfl; rfl; rfl)
 refine dfa (off := 4) (s := 1) (r := false) rfl rfl rfl (Nat.succ_ne_zero _) rfl rfl rfl ?_
 (apply dlc (v := .str _) rfl rfl; exact Q0; exact Q6; rfl; rfl; rfl; rfl; rfl)
 apply dclS (id :: tabIds (.nsl) Ss W t.lk.length) hf rfl rfl rfl
 ·exact SnapL.cons _ _ _ _ (snapTab (T.ext (m := n + 1 + 1) (by omega) (fun a ha => by (simp (disch := (first | omega | assumption)) only [↓appC, ↓updN, ↓updS, ↓app0]))).kl (T.ext (m := n + 1 + 1) (by omega) (fun a ha => by (simp (disch := (first | omega | assumption)) only [↓appC, ↓updN, ↓updS, ↓app0]))).ks (T.ext (m := n + 1 + 1) (by omega) (fun a ha => by (simp (disch := (first | omega | assumption)) only [↓appC, ↓updN, ↓updS, ↓app0]))).kw (fun a ha => List.mem_cons_of_mem _ ha)) (SnapL.cons _ _ _ _ (.one _ _ (.str _)) SnapL.nil)
 ·rfl
 ·rfl
 ·rfl
 refine daI rfl rfl rfl rfl rfl (dNilR 7 [0, 1, 1, 0, 1, 0, 0] [] rfl rfl (by decide +kernel) trivial ?_)
 refine qSeq (wSeq (wSeq (wRegion (rmI rfl rfl rfl rfl rfl ?_))))
 refine rlt rfl rfl rfl rfl rfl rfl ?_ (fun h => absurd ((by show (-1 : Int) < 0; decide)) h)
 intro h2_1
 refine rNil (qSeq (wT rfl (wSeq (wSeq (wRegion (rmP rfl rfl rfl rfl rfl (rnc (v := .ptr _ _ _) rfl rfl rfl rfl rfl rfl (rfa (off := 2) (s := 1) (r := false) rfl rfl rfl (Nat.succ_ne_zero _) rfl rfl rfl ?_))))))))
 (apply rlc (v := .nsl) rfl rfl; exact Q0; exact Q6; rfl; rfl; rfl; rfl; rfl)
 refine rll rfl rfl rfl rfl rfl rfl ?_
 refine req rfl rfl rfl rfl rfl rfl (fun h => absurd h ((by show ¬ ((0 : Int) = 4); decide))) ?_
 intro h3_5
 refine rNil (qSeq (wF rfl (wSkip (qSeq (wSeq ?_)))))
 refine wpG fun g0 hg0 => ?_
 have k0 : g0 n = some ⟨[[.int .i64 r.cl, .int .i64 r.st, .int .i64 r.kd, .int .i64 r.le, .str r.nm]], 5, 64⟩ := by rw [hg0]; (simp (disch := (first | omega | assumption)) only [↓appC, ↓updN, ↓updS, ↓app0]); rfl
 have k1 : g0 (n + 1) = some ⟨[[.int .i64 0, .int .i64 0, .int .i64 0, .int .i64 0]], 4, 60⟩ := by rw [hg0]; (simp (disch := (first | omega | assumption)) only [↓appC, ↓updN, ↓updS, ↓app0]); rfl
 have k2 : g0 id = some ⟨[[.int .i64 t.tm, .int .i64 t.nx, .nsl, Ss]], 4, 35⟩ := by rw [hg0]; exact Q0
 have kk : ∀ a, a < n → g0 a = h a := fun a ha => by rw [hg0]; (simp (disch := (first | omega | assumption)) only [↓appC, ↓updN, ↓updS, ↓app0])
 have kc : Ch h g0 := by rw [hg0]; (repeat first | exact Ch.refl _ | refine Ch.upd ?_ | refine Ch.app ?_)
 refine wRegion (raI rfl rfl rfl rfl rfl (rNil (qSeq (wSeq (wBlock (wLoop (lStep (wSeq (wSeq (wDraw [0, 0, 2, 6, 14, 30, 63, 127, 255, 511, 1023, 2047, 255, 8191, 16383, 32767, 255, 65791, 262143, 524287] rfl (by decide +kernel) ?_))))))))))
 refine dmI rfl rfl rfl rfl rfl (dmP rfl rfl rfl rfl rfl (dnc (v := .ptr _ _ _) rfl rfl rfl rfl rfl rfl (dfa (off := 2) (s := 1) (r := false) rfl rfl rfl (Nat.succ_ne_zero _) rfl rfl rfl ?_)))
 (apply dlc (v := .nsl) rfl rfl; exact Q0; exact Q6; rfl; rfl; rfl; rfl; rfl)
 refine dll rfl rfl rfl rfl rfl rfl ?_
 refine dlt rfl rfl rfl rfl rfl rfl (fun h => absurd h ((by show ¬ ((0 : Int) < 0); decide))) ?_
 intro h6_6
 refine dmB rfl rfl rfl rfl rfl (dSkip rfl rfl rfl (dSkip rfl rfl rfl (dSkip rfl rfl rfl (dSkip rfl rfl rfl (dSkip rfl rfl rfl (dSkip rfl rfl rfl (dSkip rfl rfl rfl (dSkip rfl rfl rfl (dSkip rfl rfl rfl (dSkip rfl rfl rfl (dSkip rfl rfl rfl (dpk (e := false) rfl rfl rfl rfl rfl rfl ?_))))))))))))
 refine dNilR 20 [0, 0, 0, 0, 0, 0, 0, 0, 0, 0, 0, 0, 0, 0, 0, 1, 0, 0, 0, 0] [] rfl rfl (by decide +kernel) trivial ?_
 refine qSeq (wF rfl (wExit (qSeqX (qLoopX (qBlockX (qSeq (wSeq ?_)))))))
 skip
 refine wRegion (rfa (off := 4) (s := 1) (r := false) rfl rfl rfl (Nat.succ_ne_zero _) rfl rfl rfl ?_)
 (apply rlc (v := .str _) rfl rfl; exact Q0; exact Q6; rfl; rfl; rfl; rfl; rfl)
 refine rbs (es := []) rfl rfl rfl rfl (Nat.succ_ne_zero _) (Nat.le_of_ble_eq_true rfl) rfl rfl rfl rfl rfl (rbd (cs := [.str _, .int _ _, .int _ _, .int _ _, _]) rfl rfl rfl rfl rfl (ral rfl rfl rfl rfl rfl rfl ?_))
 (apply rst (u := .agg [.str _, .int _ _, .int _ _, .int _ _, _]) rfl rfl rfl; exact Q0; exact Q6; rfl; rfl; rfl; rfl; (exact Nat.le_of_ble_eq_true rfl); rfl; rfl; rfl)
 refine rNil (qSeq (wDraw [0, 0, 0, 4, 12, 28, 0, 124, 254, 0, 512, 2046, 0, 4096, 12288, 28672, 0, 126976, 262142, 524287, 1048575, 2097151] rfl (by decide +kernel) ?_))
 refine dmP rfl rfl rfl rfl rfl (dbs (es := []) rfl rfl rfl rfl (Nat.succ_ne_zero _) (Nat.le_of_ble_eq_true rfl) rfl rfl rfl rfl rfl (dmP rfl rfl rfl rfl rfl (dnc (v := .ptr _ _ _) rfl rfl rfl rfl rfl rfl (dfa (off := 2) (s := 1) (r := false) rfl rfl rfl (Nat.succ_ne_zero _) rfl rfl rfl ?_))))
 (apply dlc (v := .nsl) rfl rfl; exact Q0; exact Q6; rfl; rfl; rfl; rfl; rfl)
 refine dmI rfl rfl rfl rfl rfl (dsnn rfl rfl rfl rfl rfl rfl rfl rfl ?_)
 (apply dap (s' := 64)  rfl rfl; exact Q0; rfl; rfl; exact Q28; rfl; rfl; exact (Nat.succ_ne_zero _); exact Q25; exact Q19; exact Q9; exact Q9; rfl; rfl; rfl)
 (apply dlr (vs := [.str _, .int _ _, .int _ _, .int _ _, _]) rfl rfl; exact Q0; exact Q6; rfl; (exact Nat.le_of_ble_eq_true rfl); rfl; rfl; rfl; rfl)
 refine dbs (es := [[.str _, .int _ _, .int _ _, .int _ _, _]]) rfl rfl rfl rfl (Nat.succ_ne_zero _) (Nat.le_of_ble_eq_true rfl) rfl rfl rfl rfl rfl ?_
 (apply dap (s' := 64) (es := [[.str _, .int _ _, .int _ _, .int _ _, _]]) rfl rfl; exact Q0; rfl; rfl; exact Q28; rfl; rfl; exact (Nat.succ_ne_zero _); exact Q25; exact Q19; exact Q9; exact Q9; rfl; rfl; rfl)
 refine dmP rfl rfl rfl rfl rfl (dnc (v := .ptr _ _ _) rfl rfl rfl rfl rfl rfl (dfa (off := 2) (s := 1) (r := false) rfl rfl rfl (Nat.succ_ne_zero _) rfl rfl rfl ?_))
 (apply dlc (v := .nsl) rfl rfl; exact Q0; exact Q6; rfl; rfl; rfl; rfl; rfl)
 refine dmI rfl rfl rfl rfl rfl (dsnn rfl rfl rfl rfl rfl rfl rfl rfl ?_)
 (apply dap (s' := 64)  rfl rfl; exact Q0; rfl; rfl; exact Q28; rfl; rfl; exact (Nat.succ_ne_zero _); exact Q25; exact Q19; exact Q9; exact Q9; rfl; rfl; rfl)
 refine dnc (v := .ptr _ _ _) rfl rfl rfl rfl rfl rfl (dfa (off := 2) (s := 1) (r := false) rfl rfl rfl (Nat.succ_ne_zero _) rfl rfl rfl ?_)
 (apply dst (u := .view _ _ _) rfl rfl rfl; exact Q0; exact Q6; rfl; rfl; rfl; rfl; (exact Nat.le_of_ble_eq_true rfl); rfl; rfl; rfl)
 refine dNilR 22 [3, 0, 0, 3, 0, 0, 1, 0, 0, 0, 3, 3, 1, 3, 0, 0, 1, 0, 0, 0, 3, 0] [(1, 5), (1, 9), (8, 9), (1, 10), (5, 10), (8, 10), (1, 15), (8, 15), (10, 15), (11, 15)] rfl rfl (by decide +kernel) ?_ ?_
 ·(simp [ClearL, ids, srcIds, Env.eval, upd]; try omega)
 refine qSeq (wSeq ?_)
 refine wpG fun g1 hg1 => ?_
 have kI : g1 (n + 1 + 1 + 1 + 1 + 1 + 1 + 1 + 1) = some ⟨((rwW t.lk W).take 0 ++ [.str r.nm, .int .i64 0, .int .i64 (-1), .int .i64 0, (.view (n + 1 + 1) 0 0)] :: (rwW t.lk W).drop 0), 5, 29⟩ := by
  rw [hg1]; (simp (disch := (first | omega | assumption)) only [↓appC, ↓updN, ↓updS, ↓app0])
  refine congrArg (fun z => some (Blk.mk z 5 29)) ?_
  rw [hR0]; rfl
 have q0 : g1 n = some ⟨[[.int .i64 r.cl, .int .i64 r.st, .int .i64 r.kd, .int .i64 r.le, .str r.nm]], 5, 64⟩ := by rw [hg1]; (simp (disch := (first | omega | assumption)) only [↓appC, ↓updN, ↓updS, ↓app0]); exact k0
 have q1 : g1 (n + 1) = some ⟨[[.int .i64 0, .int .i64 0, .int .i64 0, .int .i64 0]], 4, 60⟩ := by rw [hg1]; (simp (disch := (first | omega | assumption)) only [↓appC, ↓updN, ↓updS, ↓app0]); exact k1
 have q2 : g1 id = some ⟨[[.int .i64 t.tm, .int .i64 t.nx, .view (n + 1 + 1 + 1 + 1 + 1 + 1 + 1 + 1) 0 (t.lk.length + 1), Ss]], 4, 35⟩ := by
  rw [hg1]; (simp (disch := (first | omega | assumption)) only [↓appC, ↓updN, ↓updS, ↓app0])
  exact congrArg (fun z => some (Blk.mk [[.int .i64 t.tm, .int .i64 t.nx, .view (n + 1 + 1 + 1 + 1 + 1 + 1 + 1 + 1) 0 z, Ss]] 4 35)) ((by rw [hz]; rfl))
 have qW : g1 (n + 1 + 1) = some ⟨[], 2, 123⟩ := by rw [hg1]; (simp (disch := (first | omega | assumption)) only [↓appC, ↓updN, ↓updS, ↓app0]); rfl
 have qk : ∀ a, a < n → a ≠ id → g1 a = h a := fun a ha hne => by rw [hg1]; (simp (disch := (first | omega | assumption)) only [↓appC, ↓updN, ↓updS, ↓app0]); exact kk a ha
 have qc : Ch h g1 := by rw [hg1]; (repeat first | exact Ch.refl _ | exact kc | refine Ch.upd ?_ | refine Ch.app ?_)
 refine wRegion (rmP rfl rfl rfl rfl rfl (rnc (v := .ptr _ _ _) rfl rfl rfl rfl rfl rfl (rfa (off := 2) (s := 1) (r := false) rfl rfl rfl (Nat.succ_ne_zero _) rfl rfl rfl ?_)))
 (apply rlc (v := .view _ _ _) rfl rfl; exact Q0; exact Q6; rfl; rfl; rfl; rfl; rfl)
 refine rmI rfl rfl rfl rfl rfl ?_
 (refine r0 ((op_index_view (b := ⟨((rwW t.lk W).take 0 ++ [.str r.nm, .int .i64 0, .int .i64 (-1), .int .i64 0, (.view (n + 1 + 1) 0 0)] :: (rwW t.lk W).drop 0), 5, 29⟩) rfl rfl rfl rfl (by exact Q0) rfl (by omega) (by omega)).to (v' := .ptr (n + 1 + 1 + 1 + 1 + 1 + 1 + 1 + 1) 0 0) (by first | rw [toNat0] | rfl)) rfl rfl rfl ?_)
 refine raP rfl rfl rfl rfl rfl (rNil (qSeq (wSeq (wBlock (wSeq (wDraw [0, 1, 3, 7, 0, 16, 63, 127, 255, 511, 1023, 255, 2303, 8191, 16383, 32767, 65535] rfl (by decide +kernel) ?_))))))
 refine dmP rfl rfl rfl rfl rfl (dnc (v := .ptr _ _ _) rfl rfl rfl rfl rfl rfl (dfa (off := 2) (s := 1) (r := false) rfl rfl rfl (Nat.succ_ne_zero _) rfl rfl rfl ?_))
 (apply dlc (v := .int _ _) rfl rfl; exact Q0; exact Q6; rfl; rfl; rfl; rfl; rfl)
 refine dfa (off := 0) (s := 1) (r := false) rfl rfl rfl (Nat.succ_ne_zero _) rfl rfl rfl ?_
 (apply dlc (v := .int _ _) rfl rfl; exact Q0; exact Q6; rfl; rfl; rfl; rfl; rfl)
 refine deq rfl rfl rfl rfl rfl rfl (fun h => absurd h (by omega)) ?_
 intro h11_6
 refine dmB rfl rfl rfl rfl rfl (dmP rfl rfl rfl rfl rfl (dnc (v := .ptr _ _ _) rfl rfl rfl rfl rfl rfl ?_))
 (apply dlr (vs := [.str _, .int _ _, .int _ _, .int _ _, _]) rfl rfl; exact Q0; exact Q6; rfl; (exact Nat.le_of_ble_eq_true rfl); rfl; rfl; rfl; rfl)
 refine dfa (off := 0) (s := 1) (r := false) rfl rfl rfl (Nat.succ_ne_zero _) rfl rfl rfl ?_
 (apply dlc (v := .int _ _) rfl rfl; exact Q0; exact Q6; rfl; rfl; rfl; rfl; rfl)
 apply dclS [n + 1 + 1] (s131 ⟨r.nm, 0, -1, 0, []⟩ false r.cl (Nat.zero_le _)) rfl rfl rfl
 ·exact SnapL.cons _ _ _ _ (SnapC.agg (.cons _ _ _ _ (.str _) (.cons _ _ _ _ (.int _ _) (.cons _ _ _ _ (.int _ _) (.cons _ _ _ _ (.int _ _) (.cons _ _ _ _ (snapIsL (L := []) (.inr ⟨n + 1 + 1, [], rfl, by exact Q0⟩) (fun a ha => by cases ha; exact List.mem_singleton.2 rfl)) .nil)))))) (SnapL.cons _ _ _ _ (.one _ _ (.int _ _)) SnapL.nil)
 ·rfl
 ·rfl
 ·rfl
 refine dge rfl rfl rfl rfl rfl rfl (fun h => absurd h ((by show ¬ ((-1 : Int) ≥ 0); decide))) ?_
 intro h11_14
 refine dpk (e := false) rfl rfl rfl rfl rfl rfl (daB rfl rfl rfl rfl rfl (dNilR 17 [0, 0, 0, 1, 1, 0, 1, 0, 0, 0, 0, 1, 0, 1, 0, 0, 0] [] rfl rfl (by decide +kernel) trivial ?_))
 refine qSeq (wF rfl (wSeq (wRegion (rmP rfl rfl rfl rfl rfl (rnc (v := .ptr _ _ _) rfl rfl rfl rfl rfl rfl (rfa (off := 2) (s := 1) (r := false) rfl rfl rfl (Nat.succ_ne_zero _) rfl rfl rfl ?_))))))
 (apply rlc (v := .int _ _) rfl rfl; exact Q0; exact Q6; rfl; rfl; rfl; rfl; rfl)
 refine rlt rfl rfl rfl rfl rfl rfl ?_ (fun h => absurd ((by show (-1 : Int) < 0; decide)) h)
 intro h13_4
 refine raB rfl rfl rfl rfl rfl (rNil (qSeq (wT rfl (wSeq (wRegion (rmP rfl rfl rfl rfl rfl (rmI rfl rfl rfl rfl rfl (rfa (off := 0) (s := 1) (r := false) rfl rfl rfl (Nat.succ_ne_zero _) rfl rfl rfl ?_))))))))
 (apply rlc (v := .int _ _) rfl rfl; exact Q0; exact Q6; rfl; rfl; rfl; rfl; rfl)
 refine rfa (off := 3) (s := 1) (r := false) rfl rfl rfl (Nat.succ_ne_zero _) rfl rfl rfl ?_
 (apply rlc (v := .int _ _) rfl rfl; exact Q0; exact Q6; rfl; rfl; rfl; rfl; rfl)
 refine rop (o124k r.nm 0 (-1) 0 t.tm t.nx r.cl r.le (.view (n + 1 + 1) 0 0) Ss rfl htm (by omega) hle (id := id) (lb := n + 1 + 1 + 1 + 1 + 1 + 1 + 1 + 1) (j := 0) (len := t.lk.length + 1) (R := ((rwW t.lk W).take 0 ++ [.str r.nm, .int .i64 0, .int .i64 (-1), .int .i64 0, (.view (n + 1 + 1) 0 0)] :: (rwW t.lk W).drop 0)) (by omega) (by omega) (by omega) q2 (by omega) hRI kI hrow) rfl rfl rfl rfl rfl rfl ?_
 refine rNil (qSeq (wSeq (wRegion (rmP rfl rfl rfl rfl rfl (rnc (v := .ptr _ _ _) rfl rfl rfl rfl rfl rfl (rfa (off := 2) (s := 1) (r := false) rfl rfl rfl (Nat.succ_ne_zero _) rfl rfl rfl ?_))))))
 (apply rlc (v := .view _ _ _) rfl rfl; exact Q0; exact Q6; rfl; rfl; rfl; rfl; rfl)
 refine rmI rfl rfl rfl rfl rfl ?_
 (refine r0 ((op_index_view (b := ⟨(((rwW t.lk W).take 0 ++ [.str r.nm, .int .i64 0, .int .i64 (-1), .int .i64 0, (.view (n + 1 + 1) 0 0)] :: (rwW t.lk W).drop 0).set 0 [.str r.nm, .int .i64 t.nx, .int .i64 r.cl, .int .i64 (t.tm + r.le), (.view (n + 1 + 1) 0 0)]), 5, 29⟩) rfl rfl rfl rfl (by exact Q0) rfl (by omega) (by omega)).to (v' := .ptr (n + 1 + 1 + 1 + 1 + 1 + 1 + 1 + 1) 0 0) (by first | rw [toNat0] | rfl)) rfl rfl rfl ?_)
 (apply rlr (vs := [.str _, .int _ _, .int _ _, .int _ _, _]) rfl rfl; exact Q0; exact Q6; rfl; (exact Nat.le_of_ble_eq_true rfl); rfl; rfl; rfl; rfl)
 apply rclS [n + 1 + 1] (s130 ⟨r.nm, t.nx, r.cl, t.tm + r.le, []⟩ false 1) rfl rfl rfl
 ·exact SnapL.cons _ _ _ _ (.one _ _ (.int _ _)) (SnapL.cons _ _ _ _ (SnapC.agg (.cons _ _ _ _ (.str _) (.cons _ _ _ _ (.int _ _) (.cons _ _ _ _ (.int _ _) (.cons _ _ _ _ (.int _ _) (.cons _ _ _ _ (snapIsL (L := []) (.inr ⟨n + 1 + 1, [], rfl, by exact Q0⟩) (fun a ha => by cases ha; exact List.mem_singleton.2 rfl)) .nil)))))) SnapL.nil)
 ·rfl
 ·rfl
 ·rfl
 (apply rst (u := .agg [.int _ _, .int _ _, .int _ _, .int _ _]) rfl rfl rfl; exact Q0; exact Q6; rfl; rfl; rfl; rfl; (exact Nat.le_of_ble_eq_true rfl); rfl; rfl; rfl)
 refine rNil (qSeq (wRet (qBlockR (qSeqR (finM (resL_cons (resV_row rfl (by exact Q0) rfl rfl (Nat.le_of_ble_eq_true rfl) rfl) resL_nil) (by (repeat first | exact Ch.refl _ | exact qc | refine Ch.upd ?_ | refine Ch.app ?_)) ?_)))))
 rw [acqT_new hh (by omega), hp]
 refine ⟨rfl, T.insS hk ⟨r.nm, t.nx, r.cl, t.tm + r.le, []⟩ (.view (n + 1 + 1) 0 0) (t.nx + 1) (n + 1 + 1 + 1 + 1 + 1 + 1 + 1 + 1) (by omega) ⟨by omega, by omega⟩ ?_ ?_ (.inr ⟨n + 1 + 1, [], rfl, ?_⟩) (fun a ha => by cases ha; exact ⟨by omega, by omega, by omega⟩) ?_⟩
 ·exact Q0
 ·(simp (disch := (first | omega | assumption)) only [↓appC, ↓updN, ↓updS, ↓app0])
  exact congrArg (fun z => some (Blk.mk z 5 29)) (set_mid hA)
 ·exact Q0
 ·intro a ha h1 h2
  (simp (disch := (first | omega | assumption)) only [↓appC, ↓updN, ↓updS, ↓app0]); exact qk a ha h1
theorem o129 (t : Tb) (r : Rq) (bd : Bd t r) (hhd0 : ∀ i, i < t.lk.length → -1 ≤ (t.lk.getD i Lk0).hd) {id : Nat} {Sl Ss : V} {W : Nat → V} {h : Heap} {n : Nat} (T : TabM t id Sl Ss W h n) : OpenM En 129 [.ptr id 0 0, .agg [.int .i64 r.cl, .int .i64 r.st, .int .i64 r.kd, .int .i64 r.le, .str r.nm]] h n (fun v g m => v = .agg (acqT t r).2.V ∧ TabS (acqT t r).1 id (OwnT id Sl Ss W t.lk.length) n h g m) := by
 rcases T.kl with ⟨rfl, k⟩ | ⟨lb, rfl, k⟩
 ·have hl : t.lk.length = 0 := by have := congrArg List.length k; rw [rwW_len] at this; exact this
  have e : t.lk = [] := List.eq_nil_of_length_eq_zero hl
  exact o129z t r bd (fun e => by have := e.1; omega) (by rw [e]; rfl) hl T
 ·rw [rwW_len] at T ⊢
  by_cases hh : hit r.nm t.lk
  ·exact o129h t r bd hhd0 hh rfl T
  ·exact o129x t r bd hh rfl T
end Go.Proofs.Ytknnniaoboaghaa
