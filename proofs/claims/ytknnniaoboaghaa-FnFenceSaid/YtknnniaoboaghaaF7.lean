import Derived.Test.YtknnniaoboaghaaF6
namespace Go.Proofs.Ytknnniaoboaghaa
open Go.V
set_option linter.unusedVariables false
set_option linter.unusedSimpArgs false
set_option maxRecDepth 20000
set_option maxHeartbeats 4000000
theorem apart150 : ApartRun En.P 150 := fun w a b la ca lb cb tA tB kA kB hne hsa hsb hkB hfa hfe => by
 show (callFunc 150 #[.slice (some a) la ca, .slice (some b) lb cb]).run Try.prog w = _
 rw [run_callFunc_extern Try.func150 (by kernel_rfl) (by kernel_rfl) (by kernel_rfl) (e := Extern.SlicesOverlaps.overlaps #[32, 32] #[4]) (by kernel_rfl)]
 have hr := Lib.run_overlaps_apart (P := Try.prog) w 32 4 29 (by kernel_rfl) 5 (fun w => by kernel_rfl) a b la ca lb cb hne tA tB kA kB hsa hsb hkB hfa hfe
 simp only [Sem.run_bind, hr, Result.andThen_ok, Sem.run_pure]
theorem o146g (R : List (List V)) (X : List V) (i c : Nat) (hi : i < R.length) (hc : R.length ≤ c) (hg : c < R.length + 1) (hL : R.length ≤ 1000) {sb vb : Nat} {h : Heap} {n : Nat} (hs : sb < n) (hv : vb < n) (hne : vb ≠ sb) (k1 : h sb = some ⟨R, 5, 29⟩) (k2 : h vb = some ⟨[X], 5, 29⟩) :
  V.Open En 146 [.vcap sb 0 R.length c, .int .i64 i, .view vb 0 1] h n (.view n 0 (R.length + 1)) [(n, some ⟨R.take i ++ X :: R.drop i, 5, 29⟩)] (n + 1) := by
 refine V.Open.of_wp Try.func146 rfl kb ?_
 refine A2 (A0 (AA j5 (A3 (A1 (A2 (A0 (Y3 j5 (B6 j5 ?_))))))))
 (apply Y5 j3; exact Q0; exact j3; exact Q2; exact Q2; exact Q2; exact j3)
 refine A3 (A1 (A2 (A0 (K1 j5 (H0 rfl rfl rfl j3 (D0 j5 (A3 (A1 (A2 (A2 (A0 (B6 j5 ?_))))))))))))
 refine H5 j6 (fun h => absurd h ((by show ¬ ((1 : Int) = 0); decide))) ?_
 intro h3_1
 refine A3 (A1 (wF rfl (B0 (A1 (A2 (A0 (Y3 j5 (H0 rfl rfl rfl j3 (D0 j5 (A3 (A1 (A2 ?_))))))))))))
 refine A2 (A0 (B6 j5 (B6 j5 ?_)))
 refine H5 j6 (fun h => absurd h ((by omega))) ?_
 intro h6_2
 refine A3 (A1 (wF rfl (B0 (A1 (A2 (A2 (A0 (B6 j5 (B6 j5 (C3 j3 ?_ ?_ j3 ?_))))))))))
 ·exact Q2
 ·exact Q2
 refine Y3 j5 (rcap rfl j5 ?_)
 refine V4 j6 ?_ (fun h => absurd ((by show ((R.length : Int) + ((1 : Nat) : Int) > (c : Int)); omega)) h)
 intro h8_5
 refine A3 (A1 (wT rfl (A2 (A0 (Y3 j5 (B6 j5 ?_))))))
 (apply Y5 j3; exact Q0; exact j3; exact Q2; exact Q2; exact Q2; exact j3)
 refine B6 j5 (B6 j5 (C3 j3 ?_ ?_ j3 ?_))
 ·exact Q2
 ·exact Q2
 refine B6 j5 ?_
 (refine r0 ((H6 rfl rfl rfl rfl).to (v' := .int .i64 ((R.length + 1 - i : Nat) : Int)) (by rw [G4 (by omega) (by omega)]; congr 1; omega)) rfl rfl rfl ?_)
 (apply rapm (s' := 64) rfl j2; exact Q0; rfl; exact Q2; exact j2; kernel_rfl; exact kz; exact Q2; exact Q2; exact Q2; exact Q2; exact j3)
 refine S6 j5 (A3 (A1 (A2 (A0 (K1 j5 (B6 j5 ?_))))))
 (apply rslv j3; exact Q0; exact j3; exact Q2; exact Q2; exact Q2; exact j3)
 refine K1 j5 ?_
 (apply rcpy (q := 1) rfl j2; exact Q0; exact Q0; exact j3; exact Q29; exact Q2; exact Q2; rfl; exact kz; exact j3)
 refine A3 (A1 (A2 (C2 [0, 0, 0, 6, 15, 0, 0, 96, 255] rfl (by decide +kernel) ?_)))
 refine dmV j5 (I0 j5 (I0 j5 (V3 j3 ?_ ?_ j3 ?_)))
 ·exact Q2
 ·exact Q2
 (apply dslv j3; exact Q0; exact j3; exact Q2; exact Q2; exact Q2; exact j3)
 refine dmK j5 (I0 j5 ?_)
 (apply dslc j3; exact Q0; exact j3; exact Q2; exact Q2; exact Q2; exact j3)
 (apply dcpy (q := R.length - i) rfl j2; exact Q0; exact Q0; exact j3; exact Q29; exact Q2; exact Q2; rfl; exact kz; exact j3)
 refine B1 9 [3, 1, 0, 0, 1, 0, 0, 0, 0] [] j2 (by decide +kernel) trivial ?_
 refine A1 (A2 (A0 (K1 j5 (S6 j5 (A3 (A1 (A9 (B2 ?_))))))))
 refine E7 rfl (congrArg (V.view n 0) (show _ = R.length + 1 from by first | omega | (simp; omega))) ?_ (Nat.le_refl _)
 refine K8 (fun jx hjx => ?_) (fun jx hjx hn => ?_)
 ·simp only [List.map_cons, List.map_nil, List.mem_cons, List.not_mem_nil, or_false] at hjx
  rw [hjx]
  (simp (disch := omega) only [↓appC, ↓updN, ↓updS, ↓app0])
  refine congrArg (fun z => some (Blk.mk z 5 29)) ?_
  have h1 : List.take ((i : Int).toNat - Int.toNat 0) (List.drop (0 + Int.toNat 0) R) = R.take i := by simp
  have h2 : List.take (R.length - i) (List.drop (0 + (i : Int).toNat) R) = R.drop i := by
   rw [List.take_of_length_le (by simp)]; simp
  have h3 : 0 + ((i : Int) + ((1 : Nat) : Int)).toNat = i + 1 := by omega
  have h4 : 0 + (i : Int).toNat = i := by omega
  refine Eq.trans (congr (congr (congrArg putR (congr (congr (congrArg putR (congrArg (· ++ List.replicate (R.length + 1 - i) (List.replicate 5 V.unk)) h1)) h4) rfl)) h3) h2) ?_
  refine (insR (x := X) (by simp; omega) (by simp; omega)).trans rfl
 ·simp only [List.map_cons, List.map_nil, List.mem_cons, List.not_mem_nil, or_false, not_or] at hn
  (simp (disch := omega) only [↓appC, ↓updN, ↓updS, ↓app0])
theorem o146i (R : List (List V)) (X : List V) (i c : Nat) (hi : i < R.length) (hc : R.length + 1 ≤ c) (hL : R.length ≤ 1000) {sb vb : Nat} {h : Heap} {n : Nat} (hs : sb < n) (hv : vb < n) (hne : vb ≠ sb) (k1 : h sb = some ⟨R, 5, 29⟩) (k2 : h vb = some ⟨[X], 5, 29⟩) :
  V.Open En 146 [.vcap sb 0 R.length c, .int .i64 i, .view vb 0 1] h n (.vcap sb 0 (R.length + 1) c) [(sb, some ⟨R.take i ++ X :: R.drop i, 5, 29⟩)] n := by
 refine V.Open.of_wp Try.func146 rfl kb ?_
 refine A2 (A0 (AA j5 (A3 (A1 (A2 (A0 (Y3 j5 (B6 j5 ?_))))))))
 (apply Y5 j3; exact Q0; exact j3; exact Q2; exact Q2; exact Q2; exact j3)
 refine A3 (A1 (A2 (A0 (K1 j5 (H0 rfl rfl rfl j3 (D0 j5 (A3 (A1 (A2 (A2 (A0 (B6 j5 ?_))))))))))))
 refine H5 j6 (fun h => absurd h ((by show ¬ ((1 : Int) = 0); decide))) ?_
 intro h3_1
 refine A3 (A1 (wF rfl (B0 (A1 (A2 (A0 (Y3 j5 (H0 rfl rfl rfl j3 (D0 j5 (A3 (A1 (A2 ?_))))))))))))
 refine A2 (A0 (B6 j5 (B6 j5 ?_)))
 refine H5 j6 (fun h => absurd h ((by omega))) ?_
 intro h6_2
 refine A3 (A1 (wF rfl (B0 (A1 (A2 (A2 (A0 (B6 j5 (B6 j5 (C3 j3 ?_ ?_ j3 ?_))))))))))
 ·exact Q2
 ·exact Q2
 refine Y3 j5 (rcap rfl j5 ?_)
 refine V4 j6 (fun h => absurd h ((by show ¬ ((R.length : Int) + ((1 : Nat) : Int) > (c : Int)); omega))) ?_
 intro h8_5
 refine A3 (A1 (wF rfl (B0 (A1 (A2 (A0 (Y3 j5 (B6 j5 (B6 j5 (C3 j3 ?_ ?_ j3 ?_))))))))))
 ·exact Q2
 ·exact Q2
 (apply Y5 j3; exact Q0; exact j3; exact Q2; exact Q2; exact Q2; exact j3)
 refine raK j5 (A3 (A1 (A2 (A2 (A0 (K1 j5 (Y3 j5 (B6 j5 (B6 j5 (C3 j3 ?_ ?_ j3 ?_))))))))))
 ·exact Q2
 ·exact Q2
 (apply Y5 j3; exact Q0; exact j3; exact Q2; exact Q2; exact Q2; exact j3)
 (apply rapt apart150 rfl j3 hne; exact Q0; exact Q0; (show (5 : Nat) ≠ 1; decide); (show 0 < R.length * 5; omega); exact j3)
 refine D5 (c := false) j5 (A3 (A1 (wT rfl (A2 (C2 [0, 0, 0, 6, 15, 0, 0, 96, 255] rfl (by decide +kernel) ?_)))))
 refine dmK j5 (I0 j5 (I0 j5 (V3 j3 ?_ ?_ j3 ?_)))
 ·exact Q2
 ·exact Q2
 (apply dslc j3; exact Q0; exact j3; exact Q2; exact Q2; exact Q2; exact j3)
 refine dmK j5 (I0 j5 ?_)
 (apply dslc j3; exact Q0; exact j3; exact Q2; exact Q2; exact Q2; exact j3)
 (apply dcpy (q := R.length - i) rfl j2; exact Q0; exact Q0; exact j3; exact Q29; exact Q2; exact Q2; rfl; exact kz; exact j3)
 refine B1 9 [3, 1, 0, 0, 1, 0, 0, 0, 0] [] j2 (by decide +kernel) trivial ?_
 refine A1 (A2 (A0 (Y3 j5 (B6 j5 ?_))))
 (apply Y5 j3; exact Q0; exact j3; exact Q2; exact Q2; exact Q2; exact j3)
 refine K1 j5 ?_
 (apply rcpy (q := 1) rfl j2; exact Q0; exact Q0; exact j3; exact Q29; exact Q2; exact Q2; rfl; exact kz; exact j3)
 refine A3 (A1 (A2 (A0 (Y3 j5 (raK j5 (A3 (A1 (A9 (B2 ?_)))))))))
 refine E7 rfl (show V.vcap sb (0 + Int.toNat 0) (((R.length : Int) + ((1 : Nat) : Int)).toNat - Int.toNat 0) (c - Int.toNat 0) = _ from by rw [show ((R.length : Int) + ((1 : Nat) : Int)).toNat - Int.toNat 0 = R.length + 1 by omega]; rfl) ?_ (Nat.le_refl _)
 refine K8 (fun jx hjx => ?_) (fun jx hjx hn => ?_)
 ·simp only [List.map_cons, List.map_nil, List.mem_cons, List.not_mem_nil, or_false] at hjx
  rw [hjx]
  (simp (disch := omega) only [↓appC, ↓updN, ↓updS, ↓app0])
  refine congrArg (fun z => some (Blk.mk z 5 29)) ?_
  have z0 : Int.toNat 0 = 0 := rfl
  have hs1 : 0 + Int.toNat 0 + ((i : Int) + ((1 : Nat) : Int)).toNat = i + 1 := by omega
  have hs2 : 0 + Int.toNat 0 + (i : Int).toNat = i := by omega
  have h2 : List.take (R.length - i) (List.drop (0 + Int.toNat 0 + (i : Int).toNat) R) = R.drop i := by
   rw [hs2, List.take_of_length_le (by simp)]
  have h0 : R = R.take i ++ R.drop i := (List.take_append_drop i R).symm
  refine Eq.trans (congr (congr (congrArg putR (congr (congr (congrArg putR h0) hs1) h2)) hs2) rfl) ?_
  refine (insI (x := X) (by simp; omega)).trans rfl
 ·simp only [List.map_cons, List.map_nil, List.mem_cons, List.not_mem_nil, or_false, not_or] at hn
  (simp (disch := omega) only [↓appC, ↓updN, ↓updS, ↓app0])
theorem o146m (R : List (List V)) (X : List V) (i : Nat) (hi : i < R.length) (hL : R.length ≤ 1000) {sb vb : Nat} {h : Heap} {n : Nat} (hs : sb < n) (hv : vb < n) (hne : vb ≠ sb) (k1 : h sb = some ⟨R, 5, 29⟩) (k2 : h vb = some ⟨[X], 5, 29⟩) :
  V.Open En 146 [.view sb 0 R.length, .int .i64 i, .view vb 0 1] h n (.view n 0 (R.length + 1)) [(sb, none), (n, some ⟨R.take i ++ X :: R.drop i, 5, 29⟩)] (n + 1) := by
 refine @V.Open.byCap _ _ [] [.int .i64 i, .view vb 0 1] _ _ _ _ _ _ _ _ (fun c hc => ?_)
 by_cases hg : c < R.length + 1
 ·refine V.Open.lessW (o146g R X i c hi hc hg hL hs hv hne k1 k2) (fun k b hb => ?_)
  simp only [app] at hb ⊢
  by_cases h1 : k = n
  ·subst h1; rw [upd_same] at hb ⊢; exact hb
  ·rw [B8 _ _ h1] at hb ⊢
   by_cases h2 : k = sb
   ·subst h2; rw [upd_same] at hb; cases hb
   ·rw [B8 _ _ h2] at hb; exact hb
 ·refine V.Open.lessW (V.Open.alias (o146i R X i c hi (by omega) hL hs hv hne k1 k2) (by simp only [app]; exact upd_same _ _ _)) (fun k b hb => ?_)
  simp only [app, List.cons_append, List.nil_append] at hb ⊢
  by_cases h1 : k = n
  ·subst h1; rw [upd_same] at hb ⊢; exact hb
  ·rw [B8 _ _ h1] at hb ⊢
   by_cases h2 : k = sb
   ·subst h2; rw [upd_same] at hb; cases hb
   ·rw [B8 _ _ h2] at hb ⊢; rw [B8 _ _ h2]; exact hb
open Go.V
set_option linter.unusedVariables false
set_option linter.unusedSimpArgs false
set_option maxRecDepth 20000
set_option maxHeartbeats 4000000
theorem o112g (L : List Sn) (v : Sn) (i c : Nat) (hi : i < L.length) (hc : L.length ≤ c) (hg : c < L.length + 1) (hL : L.length ≤ 1000) {sb vb : Nat} {h : Heap} {n : Nat} (hs : sb < n) (hv : vb < n) (hne : vb ≠ sb) (k1 : h sb = some ⟨L.map Sn.V, 6, 115⟩) (k2 : h vb = some ⟨[v.V], 6, 115⟩) :
  V.Open En 112 [.vcap sb 0 L.length c, .int .i64 i, .view vb 0 1] h n (.view n 0 (L.length + 1)) [(n, some ⟨(L.take i ++ v :: L.drop i).map Sn.V, 6, 115⟩)] (n + 1) := by
 refine V.Open.of_wp Try.func112 rfl kb ?_
 refine A2 (A0 (AA j5 (A3 (A1 (A2 (A0 (Y3 j5 (B6 j5 ?_))))))))
 (apply Y5 j3; exact Q0; exact j3; exact Q2; exact Q2; exact Q2; exact j3)
 refine A3 (A1 (A2 (A0 (K1 j5 (H0 rfl rfl rfl j3 (D0 j5 (A3 (A1 (A2 (A2 (A0 (B6 j5 ?_))))))))))))
 refine H5 j6 (fun h => absurd h ((by show ¬ ((1 : Int) = 0); decide))) ?_
 intro h3_1
 refine A3 (A1 (wF rfl (B0 (A1 (A2 (A0 (Y3 j5 (H0 rfl rfl rfl j3 (D0 j5 (A3 (A1 (A2 ?_))))))))))))
 refine A2 (A0 (B6 j5 (B6 j5 ?_)))
 refine H5 j6 (fun h => absurd h ((by omega))) ?_
 intro h6_2
 refine A3 (A1 (wF rfl (B0 (A1 (A2 (A2 (A0 (B6 j5 (B6 j5 (C3 j3 ?_ ?_ j3 ?_))))))))))
 ·exact Q2
 ·exact Q2
 refine Y3 j5 (rcap rfl j5 ?_)
 refine V4 j6 ?_ (fun h => absurd ((by show ((L.length : Int) + ((1 : Nat) : Int) > (c : Int)); omega)) h)
 intro h8_5
 refine A3 (A1 (wT rfl (A2 (A0 (Y3 j5 (B6 j5 ?_))))))
 (apply Y5 j3; exact Q0; exact j3; exact Q2; exact Q2; exact Q2; exact j3)
 refine B6 j5 (B6 j5 (C3 j3 ?_ ?_ j3 ?_))
 ·exact Q2
 ·exact Q2
 refine B6 j5 ?_
 (refine r0 ((H6 rfl rfl rfl rfl).to (v' := .int .i64 ((L.length + 1 - i : Nat) : Int)) (by rw [G4 (by omega) (by omega)]; congr 1; omega)) rfl rfl rfl ?_)
 (apply rapm (s' := 48) rfl j2; exact Q0; rfl; exact Q2; exact j2; kernel_rfl; exact kz; exact Q2; exact Q2; exact Q2; exact Q2; exact j3)
 refine S6 j5 (A3 (A1 (A2 (A0 (K1 j5 (B6 j5 ?_))))))
 (apply rslv j3; exact Q0; exact j3; exact Q2; exact Q2; exact Q2; exact j3)
 refine K1 j5 ?_
 (apply rcpy (q := 1) rfl j2; exact Q0; exact Q0; exact j3; exact Q29; exact Q2; exact Q2; rfl; exact kz; exact j3)
 refine A3 (A1 (A2 (C2 [0, 0, 0, 6, 15, 0, 0, 96, 255] rfl (by decide +kernel) ?_)))
 refine dmV j5 (I0 j5 (I0 j5 (V3 j3 ?_ ?_ j3 ?_)))
 ·exact Q2
 ·exact Q2
 (apply dslv j3; exact Q0; exact j3; exact Q2; exact Q2; exact Q2; exact j3)
 refine dmK j5 (I0 j5 ?_)
 (apply dslc j3; exact Q0; exact j3; exact Q2; exact Q2; exact Q2; exact j3)
 (apply dcpy (q := L.length - i) rfl j2; exact Q0; exact Q0; exact j3; exact Q29; exact Q2; exact Q2; rfl; exact kz; exact j3)
 refine B1 9 [3, 1, 0, 0, 1, 0, 0, 0, 0] [] j2 (by decide +kernel) trivial ?_
 refine A1 (A2 (A0 (K1 j5 (S6 j5 (A3 (A1 (A9 (B2 ?_))))))))
 refine E7 rfl (congrArg (V.view n 0) (show _ = L.length + 1 from by first | omega | (simp; omega))) ?_ (Nat.le_refl _)
 refine K8 (fun jx hjx => ?_) (fun jx hjx hn => ?_)
 ·simp only [List.map_cons, List.map_nil, List.mem_cons, List.not_mem_nil, or_false] at hjx
  rw [hjx]
  (simp (disch := omega) only [↓appC, ↓updN, ↓updS, ↓app0])
  refine congrArg (fun z => some (Blk.mk z 6 115)) ?_
  have h1 : List.take ((i : Int).toNat - Int.toNat 0) (List.drop (0 + Int.toNat 0) (List.map Sn.V L)) = (L.take i).map Sn.V := by simp
  have h2 : List.take (L.length - i) (List.drop (0 + (i : Int).toNat) (List.map Sn.V L)) = (L.drop i).map Sn.V := by
   rw [List.take_of_length_le (by simp)]; simp
  have h3 : 0 + ((i : Int) + ((1 : Nat) : Int)).toNat = i + 1 := by omega
  have h4 : 0 + (i : Int).toNat = i := by omega
  refine Eq.trans (congr (congr (congrArg putR (congr (congr (congrArg putR (congrArg (· ++ List.replicate (L.length + 1 - i) (List.replicate 6 V.unk)) h1)) h4) rfl)) h3) h2) ?_
  refine (insR (x := v.V) (by simp; omega) (by simp; omega)).trans ?_
  simp
 ·simp only [List.map_cons, List.map_nil, List.mem_cons, List.not_mem_nil, or_false, not_or] at hn
  (simp (disch := omega) only [↓appC, ↓updN, ↓updS, ↓app0])
theorem o112m (L : List Sn) (v : Sn) (i : Nat) (hi : i < L.length) (hL : L.length ≤ 1000) {sb vb : Nat} {h : Heap} {n : Nat} (hs : sb < n) (hv : vb < n) (hne : vb ≠ sb) (k1 : h sb = some ⟨L.map Sn.V, 6, 115⟩) (k2 : h vb = some ⟨[v.V], 6, 115⟩) :
  V.Open En 112 [.view sb 0 L.length, .int .i64 i, .view vb 0 1] h n (.view n 0 (L.length + 1)) [(sb, none), (n, some ⟨(L.take i ++ v :: L.drop i).map Sn.V, 6, 115⟩)] (n + 1) := by
 refine @V.Open.byCap _ _ [] [.int .i64 i, .view vb 0 1] _ _ _ _ _ _ _ _ (fun c hc => ?_)
 by_cases hg : c < L.length + 1
 ·refine V.Open.lessW (o112g L v i c hi hc hg hL hs hv hne k1 k2) (fun k b hb => ?_)
  simp only [app] at hb ⊢
  by_cases h1 : k = n
  ·subst h1; rw [upd_same] at hb ⊢; exact hb
  ·rw [B8 _ _ h1] at hb ⊢
   by_cases h2 : k = sb
   ·subst h2; rw [upd_same] at hb; cases hb
   ·rw [B8 _ _ h2] at hb; exact hb
 ·refine V.Open.lessW (V.Open.alias (o112i L v i c hi (by omega) hL hs hv hne k1 k2) (by simp only [app]; exact upd_same _ _ _)) (fun k b hb => ?_)
  simp only [app, List.cons_append, List.nil_append] at hb ⊢
  by_cases h1 : k = n
  ·subst h1; rw [upd_same] at hb ⊢; exact hb
  ·rw [B8 _ _ h1] at hb ⊢
   by_cases h2 : k = sb
   ·subst h2; rw [upd_same] at hb; cases hb
   ·rw [B8 _ _ h2] at hb ⊢; rw [B8 _ _ h2]; exact hb
end Go.Proofs.Ytknnniaoboaghaa
namespace Go.V
open Go
open Go.RowKit (Below)
set_option linter.unusedVariables false
def Ch (h g : Heap) : Prop := ∃ wr, g = app wr h
theorem Ch.refl (h : Heap) : Ch h h := ⟨[], rfl⟩
theorem Ch.upd {h g : Heap} {i : Nat} {b : Option Blk} (c : Ch h g) : Ch h (upd g i b) := by
  obtain ⟨wr, rfl⟩ := c
  exact ⟨wr ++ [(i, b)], by rw [I3]; rfl⟩
theorem Ch.app {h g : Heap} {wr : List (Nat × Option Blk)} (c : Ch h g) : Ch h (app wr g) := by
  obtain ⟨w0, rfl⟩ := c
  exact ⟨w0 ++ wr, by rw [I3]⟩
theorem Ch.trans {a b c : Heap} (x : Ch a b) (y : Ch b c) : Ch a c := by
  obtain ⟨w, rfl⟩ := y
  exact x.app
abbrev MV := V × List (Nat × Option Blk) × Nat
def OpenM (E : Env) (f : FuncId) (args : List V) (h : Heap) (n : Nat) (Φ : V → Heap → Nat → Prop) : Prop :=
  ∃ a : MV, Φ a.1 (app a.2.1 h) a.2.2 ∧ Open E f args h n a.1 a.2.1 a.2.2
def FinM (E : Env) (fn : Func) (h : Heap) (n0 : Nat) (Φ : V → Heap → Nat → Prop) (x : Ex) (t' : Nat → V) (h' : Heap) (n' : Nat) : Prop := ∃ a : MV, Φ a.1 (app a.2.1 h) a.2.2 ∧ OpenFin E fn a.1 h n0 a.2.1 a.2.2 x t' h' n'
theorem OpenM.of_wp {E : Env} {f : FuncId} {fn : Func} {k : Code} {args : List V} {h : Heap} {n : Nat} {Φ : V → Heap → Nat → Prop} (hf : E.P.funcs[f]? = some fn) (hb : fn.body = some k) (hn : args.length ≤ fn.ntmps)
    (w : WP E fn.ntmps k (fun i => (args[i]?).getD .unk) h n (FinM E fn h n Φ)) (hnm : (fn.name != "runtime.NumGoroutine") = true := by rfl) : OpenM E f args h n Φ :=
  Open.of_wpX (v := fun a : MV => a.1) (wr := fun a => a.2.1) (m := fun a => a.2.2) hf hb hn w hnm
theorem E0 {E : Env} {fn : Func} {h h' : Heap} {n0 n' : Nat} {x : Ex} {t' : Nat → V} {xs : List V} {Φ : V → Heap → Nat → Prop} (hr : resL E.P t' h' fn.results.toList = some xs) (hc : Ch h h')
    (hΦ : Φ (retX xs) h' n') (hx : x = .norm ∨ x = .ret := by first | exact .inl rfl | exact .inr rfl) : FinM E fn h n0 Φ x t' h' n' := by
  obtain ⟨wr, rfl⟩ := hc
  exact ⟨(retX xs, wr, n'), hΦ, E7 hr rfl (fun _ _ _ e => e) (Nat.le_refl _) hx⟩
attribute [irreducible] FinM
theorem Open.toM {E : Env} {f : FuncId} {args : List V} {h : Heap} {n : Nat} {v : V} {wr : List (Nat × Option Blk)} {m : Nat} {Φ : V → Heap → Nat → Prop} (H : Open E f args h n v wr m) (hΦ : Φ v (app wr h) m) : OpenM E f args h n Φ := ⟨(v, wr, m), hΦ, H⟩
theorem OpenM.mono {E : Env} {f : FuncId} {args : List V} {h : Heap} {n : Nat} {Φ Ψ : V → Heap → Nat → Prop} (H : OpenM E f args h n Φ) (k : ∀ v g m, n ≤ m → Φ v g m → Ψ v g m) : OpenM E f args h n Ψ := by
  obtain ⟨a, h1, h2⟩ := H
  exact ⟨a, k _ _ _ h2.le h1, h2⟩
theorem Open.weakN {E : Env} {f : FuncId} {args : List V} {h : Heap} {n m m' : Nat} {v : V} {wr : List (Nat × Option Blk)} (H : Open E f args h n v wr m) (hm : m ≤ m') : Open E f args h n v wr m' := by
  unfold Open at H ⊢
  refine ⟨⟨H.1.1, Nat.le_trans H.1.2 hm⟩, fun c vs hg hfr hal har => ?_⟩
  refine Calls.mono (H.2 c vs hg hfr hal har) ?_
  rintro e w' ⟨u, c', h1, h2, h3, h4, h5, h6⟩
  exact ⟨u, c', h1, h2, h3, h4, fun id hid => (h5 id hid).imp (fun x => x) (fun x => ⟨x.1, by omega⟩), h6⟩
theorem Y1 {E : Env} {sz : Nat} {k : Code} {t : Nat → V} {h : Heap} {n : Nat} {Q : Post} (w : ∀ g, g = h → WP E sz k t g n Q) : WP E sz k t h n Q := w h rfl
section rules
variable {E : Env} {sz : Nat} {ops : Array Oper} {o : Oper} {l : List Oper} {t : Nat → V} {h : Heap} {n : Nat} {R : (Nat → V) → Heap → Nat → Prop} {z : Operand}
theorem K9 {tys : Array TypeId} {f : FuncId} {args : Array Operand} {caps vs : List V} {Φ : V → Heap → Nat → Prop} (hop : OpenM E f vs h n Φ) (ho : o.op = .call { callee := .value z, args := args, argTypes := tys }) {d : Nat} (G0 : E.eval t z = .clo f caps ∧ args.toList.map (E.eval t) ++ caps = vs ∧ o.dst = some d ∧ Nat.blt d sz = true ∧ guardV ops t o = some true)
    (w : ∀ v g m, Φ v g m → Ch h g → n ≤ m → WR E sz ops l (upd t d v) g m R) : WR E sz ops (o :: l) t h n R := by
  obtain ⟨hc, hv, hdd, hd, hg⟩ := G0
  obtain ⟨a, h1, h2⟩ := hop
  exact I9 h2 ho hc hv hdd hd hg (w _ _ _ h1 ⟨_, rfl⟩ h2.le)
end rules
end Go.V
namespace Go.Proofs.Ytknnniaoboaghaa
open Go.V
set_option linter.unusedVariables false
set_option linter.unusedSimpArgs false
set_option maxRecDepth 20000
set_option maxHeartbeats 4000000
def fpV : V → Option Nat
 | .view id _ _ => some id
 | _ => none
def IsL (h : Heap) (v : V) (rows : List (List V)) (sz ty : Nat) : Prop := (v = .nsl ∧ rows = []) ∨ ∃ (id : Nat) (pre : List (List V)), v = .view id pre.length rows.length ∧ h id = some ⟨pre ++ rows, sz, ty⟩
def IsZ (h : Heap) (v : V) (rows : List (List V)) (sz ty : Nat) : Prop := (v = .nsl ∧ rows = []) ∨ ∃ id : Nat, v = .view id 0 rows.length ∧ h id = some ⟨rows, sz, ty⟩
theorem IsL.cell {h : Heap} {v : V} {rows : List (List V)} {sz ty : Nat} (k : IsL h v rows sz ty) : v.cell = true := by
 rcases k with ⟨rfl, _⟩ | ⟨id, pre, rfl, _⟩ <;> rfl
theorem IsZ.cell {h : Heap} {v : V} {rows : List (List V)} {sz ty : Nat} (k : IsZ h v rows sz ty) : v.cell = true := by
 rcases k with ⟨rfl, _⟩ | ⟨id, rfl, _⟩ <;> rfl
theorem IsL.mono {h g : Heap} {v : V} {rows : List (List V)} {sz ty : Nat} (k : IsL h v rows sz ty) (e : ∀ a, fpV v = some a → g a = h a) : IsL g v rows sz ty := by
 rcases k with ⟨rfl, k⟩ | ⟨id, pre, rfl, k⟩
 ·exact .inl ⟨rfl, k⟩
 ·exact .inr ⟨id, pre, rfl, (e id rfl).trans k⟩
theorem IsZ.mono {h g : Heap} {v : V} {rows : List (List V)} {sz ty : Nat} (k : IsZ h v rows sz ty) (e : ∀ a, fpV v = some a → g a = h a) : IsZ g v rows sz ty := by
 rcases k with ⟨rfl, k⟩ | ⟨id, rfl, k⟩
 ·exact .inl ⟨rfl, k⟩
 ·exact .inr ⟨id, rfl, (e id rfl).trans k⟩
theorem IsZ.some {h : Heap} {v : V} {rows : List (List V)} {sz ty : Nat} (k : IsZ h v rows sz ty) (hn : 0 < rows.length) : ∃ id : Nat, v = .view id 0 rows.length ∧ h id = some ⟨rows, sz, ty⟩ := by
 rcases k with ⟨_, rfl⟩ | k
 ·exact absurd hn (Nat.lt_irrefl 0)
 ·exact k
theorem D3 {h : Heap} {ids : List Nat} {r : Bool} {v : V} {L : List Wt} (k : IsL h v (L.map wtV) 2 123) (hid : ∀ a, fpV v = some a → a ∈ ids) : Snap h ids r v (.sl false (L.map wtT)) := by
 rcases k with ⟨rfl, k⟩ | ⟨id, pre, rfl, k⟩
 ·have : L = [] := List.map_eq_nil_iff.1 k
  subst this; exact .nslW
 ·exact .weak _ _ (snapWsP (hid id rfl) k rfl (by simp))
def rwW (L : List Lk) (W : Nat → V) : List (List V) := (List.range L.length).map fun i => (L.getD i Lk0).V (W i)
theorem B5 (L : List Lk) (W : Nat → V) : (rwW L W).length = L.length := by simp [rwW]
theorem F4 {L : List Lk} {W : Nat → V} {i : Nat} (h : i < L.length) : (rwW L W)[i]? = some ((L.getD i Lk0).V (W i)) := by simp [rwW, h]
theorem BN {L : List Lk} {k i : Nat} {l : Lk} (h : k < L.length) : (L.set k l).getD i Lk0 = if i = k then l else L.getD i Lk0 := by
 rw [List.getD_eq_getElem?_getD, List.getD_eq_getElem?_getD, List.getElem?_set]
 by_cases e : k = i
 ·subst e; simp [h]
 ·rw [if_neg e, if_neg (Ne.symm e)]
theorem rwW_set {L : List Lk} {W : Nat → V} {k : Nat} {l : Lk} {w : V} (h : k < L.length) : (rwW L W).set k (l.V w) = rwW (L.set k l) (fun i => if i = k then w else W i) := by
 apply List.ext_getElem?
 intro j
 rw [List.getElem?_set, B5]
 by_cases hj : j < L.length
 ·rw [F4 (L := L.set k l) (by rw [List.length_set]; exact hj), BN h]
  by_cases e : k = j
  ·subst e; simp [h]
  ·rw [if_neg e, if_neg (Ne.symm e), if_neg (Ne.symm e), F4 hj]
 ·rw [List.getElem?_eq_none (l := rwW (L.set k l) _) (by rw [B5, List.length_set]; omega)]
  by_cases e : k = j
  ·omega
  ·rw [if_neg e, List.getElem?_eq_none (by rw [B5]; omega)]
def insW (W : Nat → V) (k : Nat) (w : V) (i : Nat) : V := if i < k then W i else if i = k then w else W (i - 1)
def insL {α : Type} (L : List α) (k : Nat) (l : α) : List α := L.take k ++ l :: L.drop k
theorem I5 {α : Type} {L : List α} {k : Nat} {l : α} (h : k ≤ L.length) : (insL L k l).length = L.length + 1 := by simp [insL]; omega
theorem O9 {α : Type} {L : List α} {k : Nat} {l d : α} (h : k ≤ L.length) (i : Nat) : (insL L k l).getD i d = if i < k then L.getD i d else if i = k then l else L.getD (i - 1) d := by
 unfold insL
 have e : (L.take k).length = k := by simp; omega
 by_cases h1 : i < k
 ·rw [if_pos h1, List.getD_eq_getElem?_getD, List.getElem?_append_left (by omega), List.getElem?_take_of_lt h1, List.getD_eq_getElem?_getD]
 ·rw [if_neg h1, List.getD_eq_getElem?_getD, List.getElem?_append_right (by omega), e]
  by_cases h2 : i = k
  ·subst h2; simp
  ·rw [if_neg h2, show i - k = (i - 1 - k) + 1 by omega, List.getElem?_cons_succ, List.getElem?_drop, List.getD_eq_getElem?_getD]
   congr 2; omega
theorem BO {α β : Type} (f : α → β) (L : List α) (k : Nat) (l : α) : (insL L k l).map f = (L.map f).take k ++ f l :: (L.map f).drop k := by simp [insL, List.map_take, List.map_drop]
theorem rwW_ins {L : List Lk} {W : Nat → V} {k : Nat} {l : Lk} {w : V} (h : k ≤ L.length) : (rwW L W).take k ++ l.V w :: (rwW L W).drop k = rwW (insL L k l) (insW W k w) := by
 apply List.ext_getElem?
 intro j
 have e : ((rwW L W).take k).length = k := by rw [List.length_take, B5]; omega
 by_cases hj : j < L.length + 1
 ·rw [F4 (L := insL L k l) (by rw [I5 h]; exact hj), O9 h]
  unfold insW
  by_cases h1 : j < k
  ·rw [List.getElem?_append_left (by omega), List.getElem?_take_of_lt h1, F4 (by omega), if_pos h1, if_pos h1]
  ·rw [List.getElem?_append_right (by omega), e, if_neg h1, if_neg h1]
   by_cases h2 : j = k
   ·subst h2; simp
   ·rw [if_neg h2, if_neg h2, show j - k = (j - 1 - k) + 1 by omega, List.getElem?_cons_succ, List.getElem?_drop, F4 (by omega)]
    congr 3 <;> omega
 ·rw [List.getElem?_eq_none (l := rwW (insL L k l) _) (by rw [B5, I5 h]; omega), List.getElem?_eq_none (by simp [B5]; omega)]
def OwnT (id : Nat) (Sl Ss : V) (W : Nat → V) (k : Nat) (a : Nat) : Prop := a = id ∨ fpV Sl = some a ∨ fpV Ss = some a ∨ ∃ i, i < k ∧ fpV (W i) = some a
structure TabM (t : Tb) (id : Nat) (Sl Ss : V) (W : Nat → V) (h : Heap) (n : Nat) : Prop where
 idn : id < n
 kid : h id = some ⟨[[.int .i64 t.tm, .int .i64 t.nx, Sl, Ss]], 4, 35⟩
 kl : IsZ h Sl (rwW t.lk W) 5 29
 ks : IsZ h Ss (t.sn.map Sn.V) 6 115
 kw : ∀ i, i < t.lk.length → IsL h (W i) ((t.lk.getD i Lk0).ws.map wtV) 2 123
 fl : ∀ a, fpV Sl = some a → a < n ∧ a ≠ id
 fs : ∀ a, fpV Ss = some a → a < n ∧ a ≠ id ∧ fpV Sl ≠ some a
 fw : ∀ i a, i < t.lk.length → fpV (W i) = some a → a < n ∧ a ≠ id ∧ fpV Sl ≠ some a ∧ fpV Ss ≠ some a ∧ ∀ j, j < t.lk.length → j ≠ i → fpV (W j) ≠ some a
theorem TabM.lt {t : Tb} {id : Nat} {Sl Ss : V} {W : Nat → V} {h : Heap} {n : Nat} (T : TabM t id Sl Ss W h n) {a : Nat} (o : OwnT id Sl Ss W t.lk.length a) : a < n := by
 rcases o with rfl | o | o | ⟨i, hi, o⟩
 ·exact T.idn
 ·exact (T.fl a o).1
 ·exact (T.fs a o).1
 ·exact (T.fw i a hi o).1
theorem TabM.keep {t : Tb} {id : Nat} {Sl Ss : V} {W : Nat → V} {h g : Heap} {n m : Nat} (T : TabM t id Sl Ss W h n) (hm : n ≤ m) (e : ∀ a, OwnT id Sl Ss W t.lk.length a → g a = h a) : TabM t id Sl Ss W g m :=
 ⟨by have := T.idn; omega, (e id (.inl rfl)).trans T.kid, T.kl.mono fun a h => e a (.inr (.inl h)), T.ks.mono fun a h => e a (.inr (.inr (.inl h))), fun i hi => (T.kw i hi).mono fun a h => e a (.inr (.inr (.inr ⟨i, hi, h⟩))),
  fun a h => ⟨by have := (T.fl a h).1; omega, (T.fl a h).2⟩, fun a h => ⟨by have := (T.fs a h).1; omega, (T.fs a h).2⟩, fun i a hi h => ⟨by have := (T.fw i a hi h).1; omega, (T.fw i a hi h).2⟩⟩
theorem TabM.ext {t : Tb} {id : Nat} {Sl Ss : V} {W : Nat → V} {h g : Heap} {n m : Nat} (T : TabM t id Sl Ss W h n) (hm : n ≤ m) (e : ∀ a, a < n → g a = h a) : TabM t id Sl Ss W g m := T.keep hm fun a o => e a (T.lt o)
theorem TabM.setLk {t : Tb} {id : Nat} {Sl Ss : V} {W : Nat → V} {h g : Heap} {n m : Nat} (T : TabM t id Sl Ss W h n) {k : Nat} (hk : k < t.lk.length) {lb len : Nat} (hSl : Sl = .view lb 0 len) (l : Lk) (w : V) (tm nx : Int) (hnm : n ≤ m)
  (g1 : g id = some ⟨[[.int .i64 tm, .int .i64 nx, Sl, Ss]], 4, 35⟩) (g2 : g lb = some ⟨(rwW t.lk W).set k (l.V w), 5, 29⟩) (g3 : IsL g w (l.ws.map wtV) 2 123) (g4 : ∀ a, fpV w = some a → a < m ∧ (fpV (W k) = some a ∨ n ≤ a))
  (g5 : ∀ a, OwnT id Sl Ss W t.lk.length a → a ≠ id → a ≠ lb → fpV (W k) ≠ some a → g a = h a) : TabM ⟨tm, nx, t.lk.set k l, t.sn⟩ id Sl Ss (fun i => if i = k then w else W i) g m := by
 have fSl : fpV Sl = some lb := by rw [hSl]; rfl
 have hlb := T.fl lb fSl
 have hlen : (t.lk.set k l).length = t.lk.length := List.length_set
 refine ⟨by have := T.idn; omega, g1, ?_, T.ks.mono fun a ha => ?_, fun i hi => ?_, fun a ha => ⟨by have := (T.fl a ha).1; omega, (T.fl a ha).2⟩, fun a ha => ⟨by have := (T.fs a ha).1; omega, (T.fs a ha).2⟩, fun i a hi ha => ?_⟩
 ·show IsZ g Sl (rwW (t.lk.set k l) _) 5 29
  rw [← rwW_set hk]
  refine .inr ⟨lb, ?_, g2⟩
  rcases T.kl with ⟨e, _⟩ | ⟨lb', e, _⟩
  ·rw [e] at hSl; cases hSl
  ·rw [List.length_set]; rw [hSl] at e; cases e; exact hSl
 ·have := T.fs a ha
  refine g5 a (.inr (.inr (.inl ha))) this.2.1 (fun e => this.2.2 (by rw [e]; exact fSl)) (fun e => ?_)
  exact (T.fw k a hk e).2.2.2.1 ha
 ·have hi' : i < t.lk.length := by rw [← hlen]; exact hi
  show IsL g _ (((t.lk.set k l).getD i Lk0).ws.map wtV) 2 123
  rw [BN hk]
  by_cases e : i = k
  ·rw [if_pos e, if_pos e]; exact g3
  ·rw [if_neg e, if_neg e]
   refine (T.kw i hi').mono fun a ha => ?_
   have q := T.fw i a hi' ha
   exact g5 a (.inr (.inr (.inr ⟨i, hi', ha⟩))) q.2.1 (fun e => q.2.2.1 (by rw [e]; exact fSl)) (q.2.2.2.2 k hk (Ne.symm e))
 ·have hi' : i < t.lk.length := by rw [← hlen]; exact hi
  show a < m ∧ a ≠ id ∧ fpV Sl ≠ some a ∧ fpV Ss ≠ some a ∧ ∀ j, j < (t.lk.set k l).length → _
  rw [hlen]
  (try dsimp only at ha ⊢)
  by_cases e : i = k
  ·rw [if_pos e] at ha
   have q := g4 a ha
   rcases q.2 with q2 | q2
   ·have q3 := T.fw k a hk q2
    exact ⟨q.1, q3.2.1, q3.2.2.1, q3.2.2.2.1, fun j hj hne => by rw [if_neg (by omega)]; exact q3.2.2.2.2 j hj (by omega)⟩
   ·refine ⟨q.1, by have := T.idn; omega, fun e2 => by have := (T.fl a e2).1; omega, fun e2 => by have := (T.fs a e2).1; omega, fun j hj hne => ?_⟩
    rw [if_neg (by omega)]
    intro e2; have := (T.fw j a hj e2).1; omega
  ·rw [if_neg e] at ha
   have q := T.fw i a hi' ha
   refine ⟨by omega, q.2.1, q.2.2.1, q.2.2.2.1, fun j hj hne => ?_⟩
   by_cases e2 : j = k
   ·rw [if_pos e2]
    intro e3
    rcases (g4 a e3).2 with q2 | q2
    ·exact q.2.2.2.2 k hk (by omega) q2
    ·omega
   ·rw [if_neg e2]; exact q.2.2.2.2 j hj hne
theorem TabM.insLk {t : Tb} {id : Nat} {Sl Ss : V} {W : Nat → V} {h g : Heap} {n m : Nat} (T : TabM t id Sl Ss W h n) {k : Nat} (hk : k ≤ t.lk.length) (l : Lk) (w : V) (nx : Int) (lb : Nat) (hnm : n ≤ m) (hlb : n ≤ lb ∧ lb < m)
  (g1 : g id = some ⟨[[.int .i64 t.tm, .int .i64 nx, .view lb 0 (t.lk.length + 1), Ss]], 4, 35⟩) (g2 : g lb = some ⟨(rwW t.lk W).take k ++ l.V w :: (rwW t.lk W).drop k, 5, 29⟩) (g3 : IsL g w (l.ws.map wtV) 2 123)
  (g4 : ∀ a, fpV w = some a → a < m ∧ n ≤ a ∧ a ≠ lb) (g5 : ∀ a, OwnT id Sl Ss W t.lk.length a → a ≠ id → fpV Sl ≠ some a → g a = h a) : TabM ⟨t.tm, nx, insL t.lk k l, t.sn⟩ id (.view lb 0 (t.lk.length + 1)) Ss (insW W k w) g m := by
 have hlen : (insL t.lk k l).length = t.lk.length + 1 := I5 hk
 have hid := T.idn
 have key : ∀ i a, i < t.lk.length + 1 → fpV (insW W k w i) = some a → (i = k ∧ fpV w = some a) ∨ ∃ j, j < t.lk.length ∧ fpV (W j) = some a ∧ (i < k ∧ j = i ∨ k < i ∧ j + 1 = i) := fun i a hi ha => by
  unfold insW at ha
  by_cases h1 : i < k
  ·rw [if_pos h1] at ha; exact .inr ⟨i, by omega, ha, .inl ⟨h1, rfl⟩⟩
  ·rw [if_neg h1] at ha
   by_cases h2 : i = k
   ·rw [if_pos h2] at ha; exact .inl ⟨h2, ha⟩
   ·rw [if_neg h2] at ha; exact .inr ⟨i - 1, by omega, ha, .inr ⟨by omega, by omega⟩⟩
 refine ⟨by omega, g1, ?_, T.ks.mono fun a ha => ?_, fun i hi => ?_, fun a ha => ?_, fun a ha => ?_, fun i a hi ha => ?_⟩
 ·show IsZ g _ (rwW (insL t.lk k l) _) 5 29
  rw [← rwW_ins hk]
  refine .inr ⟨lb, ?_, g2⟩
  rw [rwW_ins hk, B5, hlen]
 ·have := T.fs a ha
  exact g5 a (.inr (.inr (.inl ha))) this.2.1 this.2.2
 ·have hi' : i < t.lk.length + 1 := by rw [← hlen]; exact hi
  show IsL g _ (((insL t.lk k l).getD i Lk0).ws.map wtV) 2 123
  rw [O9 hk]
  unfold insW
  have old : ∀ j, j < t.lk.length → IsL g (W j) ((t.lk.getD j Lk0).ws.map wtV) 2 123 := fun j hj => (T.kw j hj).mono fun a ha => by
   have q := T.fw j a hj ha
   exact g5 a (.inr (.inr (.inr ⟨j, hj, ha⟩))) q.2.1 q.2.2.1
  by_cases h1 : i < k
  ·rw [if_pos h1, if_pos h1]; exact old i (by omega)
  ·rw [if_neg h1, if_neg h1]
   by_cases h2 : i = k
   ·rw [if_pos h2, if_pos h2]; exact g3
   ·rw [if_neg h2, if_neg h2]; exact old (i - 1) (by omega)
 ·cases ha; exact ⟨hlb.2, by omega⟩
 ·have q := T.fs a ha
  exact ⟨by omega, q.2.1, fun e => by cases e; omega⟩
 ·have hi' : i < t.lk.length + 1 := by rw [← hlen]; exact hi
  show a < m ∧ a ≠ id ∧ some lb ≠ some a ∧ fpV Ss ≠ some a ∧ ∀ j, j < (insL t.lk k l).length → _
  rw [hlen]
  rcases key i a hi' ha with ⟨e, ha'⟩ | ⟨j, hj, ha', hji⟩
  ·have q := g4 a ha'
   refine ⟨q.1, by omega, fun e => q.2.2 (Option.some.inj e).symm, fun e2 => by have := (T.fs a e2).1; omega, fun j hj hne e2 => ?_⟩
   rcases key j a hj e2 with ⟨e3, _⟩ | ⟨j', hj', e3, _⟩
   ·omega
   ·have := (T.fw j' a hj' e3).1; omega
  ·have q := T.fw j a hj ha'
   refine ⟨by omega, q.2.1, fun e => by have := Option.some.inj e; omega, q.2.2.2.1, fun i2 hi2 hne e2 => ?_⟩
   rcases key i2 a hi2 e2 with ⟨_, e3⟩ | ⟨j', hj', e3, h3⟩
   ·have := g4 a e3; omega
   ·exact q.2.2.2.2 j' hj' (by omega) e3
theorem TabM.setSn {t : Tb} {id : Nat} {Sl Ss : V} {W : Nat → V} {h g : Heap} {n m : Nat} (T : TabM t id Sl Ss W h n) (sn : List Sn) (Ss' : V) (hnm : n ≤ m) (g1 : g id = some ⟨[[.int .i64 t.tm, .int .i64 t.nx, Sl, Ss']], 4, 35⟩)
  (g2 : IsZ g Ss' (sn.map Sn.V) 6 115) (g4 : ∀ a, fpV Ss' = some a → a < m ∧ (fpV Ss = some a ∨ n ≤ a)) (g5 : ∀ a, OwnT id Sl Ss W t.lk.length a → a ≠ id → fpV Ss ≠ some a → g a = h a) : TabM ⟨t.tm, t.nx, t.lk, sn⟩ id Sl Ss' W g m := by
 have hid := T.idn
 refine ⟨by omega, g1, T.kl.mono fun a ha => ?_, g2, fun i hi => (T.kw i hi).mono fun a ha => ?_, fun a ha => ⟨by have := (T.fl a ha).1; omega, (T.fl a ha).2⟩, fun a ha => ?_, fun i a hi ha => ?_⟩
 ·exact g5 a (.inr (.inl ha)) (T.fl a ha).2 (fun e => (T.fs a e).2.2 ha)
 ·have q := T.fw i a hi ha
  exact g5 a (.inr (.inr (.inr ⟨i, hi, ha⟩))) q.2.1 q.2.2.2.1
 ·have q := g4 a ha
  rcases q.2 with q2 | q2
  ·have q3 := T.fs a q2; exact ⟨q.1, q3.2⟩
  ·exact ⟨q.1, by omega, fun e => by have := (T.fl a e).1; omega⟩
 ·have q := T.fw i a hi ha
  refine ⟨by omega, q.2.1, q.2.2.1, fun e => ?_, q.2.2.2.2⟩
  rcases (g4 a e).2 with q2 | q2
  ·exact q.2.2.2.1 q2
  ·omega
theorem TabM.setTm {t : Tb} {id : Nat} {Sl Ss : V} {W : Nat → V} {h g : Heap} {n m : Nat} (T : TabM t id Sl Ss W h n) (tm : Int) (hnm : n ≤ m) (g1 : g id = some ⟨[[.int .i64 tm, .int .i64 t.nx, Sl, Ss]], 4, 35⟩)
  (g5 : ∀ a, OwnT id Sl Ss W t.lk.length a → a ≠ id → g a = h a) : TabM ⟨tm, t.nx, t.lk, t.sn⟩ id Sl Ss W g m := by
 have hid := T.idn
 exact ⟨by omega, g1, T.kl.mono fun a ha => g5 a (.inr (.inl ha)) (T.fl a ha).2, T.ks.mono fun a ha => g5 a (.inr (.inr (.inl ha))) (T.fs a ha).2.1, fun i hi => (T.kw i hi).mono fun a ha => g5 a (.inr (.inr (.inr ⟨i, hi, ha⟩))) (T.fw i a hi ha).2.1,
  fun a ha => ⟨by have := (T.fl a ha).1; omega, (T.fl a ha).2⟩, fun a ha => ⟨by have := (T.fs a ha).1; omega, (T.fs a ha).2⟩, fun i a hi ha => ⟨by have := (T.fw i a hi ha).1; omega, (T.fw i a hi ha).2⟩⟩
def tellL (kd : Int) (l : Lk) : An := ⟨kd, l.tk, l.hd, l.ex⟩
def bareA (kd : Int) : An := ⟨kd, 0, -1, 0⟩
def frL (tm nx : Int) (l : Lk) : Lk := match l.ws with | [] => ⟨l.nm, l.tk, -1, 0, []⟩ | w :: r => ⟨l.nm, nx, w.1, tm + w.2, r⟩
def frN (nx : Int) (l : Lk) : Int := if l.ws ≠ [] then nx + 1 else nx
theorem exF_fr {tm nx : Int} {l : Lk} (h : gone tm l) : exF tm nx l = frL tm nx l := if_pos h
theorem exN_fr {tm nx : Int} {l : Lk} (h : gone tm l) : exN tm nx l = frN nx l := by unfold exN frN; by_cases e : l.ws ≠ [] <;> simp [h, e]
noncomputable def acqL (t : Tb) (k : Nat) (r : Rq) : Tb × An :=
 if (t.lk.getD k Lk0).hd = r.cl ∨ 0 ≤ wix r.cl (t.lk.getD k Lk0).ws then (t, tellL 8 (t.lk.getD k Lk0))
 else if (t.lk.getD k Lk0).hd = -1 then (⟨t.tm, t.nx + 1, t.lk.set k ⟨(t.lk.getD k Lk0).nm, t.nx, r.cl, t.tm + r.le, (t.lk.getD k Lk0).ws⟩, t.sn⟩, ⟨1, t.nx, r.cl, t.tm + r.le⟩)
 else if (t.lk.getD k Lk0).ws.length = 4 then (t, tellL 6 (t.lk.getD k Lk0))
 else (⟨t.tm, t.nx, t.lk.set k ⟨(t.lk.getD k Lk0).nm, (t.lk.getD k Lk0).tk, (t.lk.getD k Lk0).hd, (t.lk.getD k Lk0).ex, (t.lk.getD k Lk0).ws ++ [(r.cl, r.le)]⟩, t.sn⟩, tellL 2 (t.lk.getD k Lk0))
noncomputable def acqT (t : Tb) (r : Rq) : Tb × An :=
 if hit r.nm t.lk then acqL t (pos r.nm t.lk) r
 else if t.lk.length = 4 then (t, bareA 6)
 else (⟨t.tm, t.nx + 1, insL t.lk (pos r.nm t.lk) ⟨r.nm, t.nx, r.cl, t.tm + r.le, []⟩, t.sn⟩, ⟨1, t.nx, r.cl, t.tm + r.le⟩)
noncomputable def doL (t : Tb) (k : Nat) (r : Rq) : Tb × An :=
 if 0 ≤ wix r.cl (t.lk.getD k Lk0).ws ∧ r.kd = 2 then
  (⟨t.tm, t.nx, t.lk.set k ⟨(t.lk.getD k Lk0).nm, (t.lk.getD k Lk0).tk, (t.lk.getD k Lk0).hd, (t.lk.getD k Lk0).ex, (t.lk.getD k Lk0).ws.take (wix r.cl (t.lk.getD k Lk0).ws).toNat ++ (t.lk.getD k Lk0).ws.drop ((wix r.cl (t.lk.getD k Lk0).ws).toNat + 1)⟩, t.sn⟩, tellL 1 (t.lk.getD k Lk0))
 else if (t.lk.getD k Lk0).hd = -1 then (t, tellL 4 (t.lk.getD k Lk0))
 else if r.kd = 4 ∨ (t.lk.getD k Lk0).hd ≠ r.cl then (t, tellL 5 (t.lk.getD k Lk0))
 else if r.kd = 3 then (⟨t.tm, t.nx, t.lk.set k ⟨(t.lk.getD k Lk0).nm, (t.lk.getD k Lk0).tk, (t.lk.getD k Lk0).hd, t.tm + r.le, (t.lk.getD k Lk0).ws⟩, t.sn⟩, ⟨1, (t.lk.getD k Lk0).tk, (t.lk.getD k Lk0).hd, t.tm + r.le⟩)
 else (⟨t.tm, frN t.nx (t.lk.getD k Lk0), t.lk.set k (frL t.tm t.nx (t.lk.getD k Lk0)), t.sn⟩, tellL 1 (frL t.tm t.nx (t.lk.getD k Lk0)))
noncomputable def doT (t : Tb) (r : Rq) : Tb × An :=
 if r.kd = 1 then acqT t r else if hit r.nm t.lk then doL t (pos r.nm t.lk) r else (t, bareA 3)
def snP (c : Int) : List Sn → Nat
 | [] => 0
 | s :: r => if s.cl < c then snP c r + 1 else 0
def snH (c : Int) (L : List Sn) : Prop := snP c L < L.length ∧ (L.getD (snP c L) Sn0).cl = c
noncomputable instance (c : Int) (L : List Sn) : Decidable (snH c L) := Classical.propDecidable _
noncomputable def reqT (t : Tb) (r : Rq) : Tb × An :=
 if snH r.cl t.sn ∧ (t.sn.getD (snP r.cl t.sn) Sn0).st = r.st then (t, (t.sn.getD (snP r.cl t.sn) Sn0).an)
 else if snH r.cl t.sn ∧ (t.sn.getD (snP r.cl t.sn) Sn0).st > r.st then (t, bareA 7)
 else if ¬ snH r.cl t.sn ∧ t.sn.length = 6 then (t, bareA 6)
 else (⟨(doT t r).1.tm, (doT t r).1.nx, (doT t r).1.lk, if snH r.cl t.sn then t.sn.set (snP r.cl t.sn) ⟨r.cl, r.st, (doT t r).2⟩ else insL t.sn (snP r.cl t.sn) ⟨r.cl, r.st, (doT t r).2⟩⟩, (doT t r).2)
noncomputable def rqT (t : Tb) (now : Int) (r : Rq) : Tb × An := reqT (exT t now) r
open Go.V
set_option linter.unusedVariables false
set_option linter.unusedSimpArgs false
set_option maxRecDepth 20000
set_option maxHeartbeats 4000000
theorem lrow (L : List Lk) (W : Nat → V) (i : Nat) : (((L.getD (0 + (i : Int).toNat) Lk0).V (W (0 + (i : Int).toNat))).drop 0).take 5 = (L.getD i Lk0).V (W i) := by
 rw [Nat.zero_add, Int.toNat_natCast]; rfl
theorem srow (L : List Sn) (i : Nat) : ((Sn.V (L.getD (0 + (i : Int).toNat) Sn0)).drop 0).take 6 = Sn.V (L.getD i Sn0) := by
 rw [Nat.zero_add, Int.toNat_natCast]; rfl
def scl (L : List Sn) (i : Nat) : Int := (L.getD i Sn0).cl
def SrtS (L : List Sn) : Prop := ∀ i, 0 < i → i < L.length → scl L (i - 1) < scl L i
theorem SrtS.lt {L : List Sn} (hs : SrtS L) {i : Nat} : ∀ {j : Nat}, i < j → j < L.length → scl L i < scl L j
 | 0, h, _ => absurd h (Nat.not_lt_zero _)
 | j + 1, h, hj => by
  have h1 := hs (j + 1) (Nat.succ_pos _) hj
  by_cases e : i = j
  ·subst e; exact h1
  ·have := hs.lt (i := i) (j := j) (by omega) (by omega)
   simp only [Nat.add_sub_cancel] at h1
   omega
theorem snP_le (c : Int) : ∀ L : List Sn, snP c L ≤ L.length
 | [] => Nat.le_refl _
 | s :: r => by
  have := snP_le c r
  unfold snP
  split <;> simp <;> omega
theorem Y9 {c : Int} : ∀ {L : List Sn} {p : Nat}, p ≤ L.length → (∀ j, j < p → scl L j < c) → (p < L.length → ¬ scl L p < c) → snP c L = p
 | [], p, h, _, _ => by simp at h; subst h; rfl
 | s :: r, 0, _, _, h2 => by
  unfold snP
  rw [if_neg]
  simpa [scl] using h2 (by simp)
 | s :: r, p + 1, h, h1, h2 => by
  unfold snP
  have h0 : s.cl < c := by simpa [scl] using h1 0 (Nat.succ_pos _)
  rw [if_pos h0, Y9 (L := r) (p := p) (by simpa using h) (fun j hj => by simpa [scl] using h1 (j + 1) (by omega)) (fun hp => by simpa [scl] using h2 (by simpa using hp))]
theorem Tb.OK.srtS {t : Tb} (h : t.OK) : SrtS t.sn := fun i h0 h1 => (h.2.2.2.2.2 i h1).2 h0
theorem p109 (s : Sn) (c : Int) (h : -1000 ≤ s.cl ∧ s.cl ≤ 1000 ∧ -1000 ≤ c ∧ c ≤ 1000) : Pure En 109 [.agg s.T, .one (.int .i64 c)] [.one (.int .i64 (s.cl - c))] := by
 refine Pure.of_wp Try.func109 rfl kb ?_
 refine A2 (A0 (L7 (u := .agg [.int _ _, .int _ _, .int _ _, .int _ _, .int _ _, .int _ _]) j3 rfl j3 (D0 j5 (A3 (A1 (A2 (A0 (C1 (off := 0) (s := 1) (r := false) j3 kz j3 ?_))))))))
 (apply C5 (v := .int _ _) j2; exact Q0; rfl; exact j5)
 refine B6 j5 (S5 j3 ?_ ?_ j3 ?_)
 ·omega
 ·omega
 refine D0 j5 (A3 (A1 (A9 ?_)))
 exact fin rfl rfl
theorem o87w (L : List Lk) (W : Nat → V) (hW : ∀ i, i < L.length → (W i).cell = true) (s : ByteArray) (hs : Srt L) (hL : L.length ≤ 1048576) {lb : Nat} {h : Heap} {n : Nat} (hlb : lb < n) (k1 : h lb = some ⟨rwW L W, 5, 29⟩) : V.Open En 87 [.view lb 0 L.length, .str s, .clo 88 []] h n (.tup [.int .i64 (pos s L), .bool (decide (hit s L))]) [] (n + L.length + 1) := by
 refine V.Open.of_wp Try.func87 rfl kb ?_
 refine A2 (A0 (D0 j5 (C6 j5 (A3 (A1 (A2 (A0 (K1 j5 (H0 rfl rfl rfl j3 (D0 j5 (A3 (A1 ?_))))))))))))
 refine A2 (A0 (B6 j5 (D0 j5 (D0 j5 (A3 (A1 (A2 (B3 (F0 ?_)))))))))
 refine E9 (fun (a : Nat × Nat × Nat) => [.view lb 0 L.length, .str s, .clo 88 [], .unk, .unk, .unk, .unk, .unk, .int .i64 L.length, .int .i64 a.1, .int .i64 a.2.1]) (fun (a : Nat × Nat × Nat) => h) (fun (a : Nat × Nat × Nat) => a.2.2) (fun (a : Nat × Nat × Nat) => a.1 ≤ a.2.1 ∧ a.2.1 ≤ L.length ∧ (∀ j, j < a.1 → ltS (lnm L j) s) ∧ (∀ j, a.2.1 ≤ j → j < L.length → ¬ ltS (lnm L j) s) ∧ n ≤ a.2.2 ∧ a.2.2 + (a.2.1 - a.1) ≤ n + L.length) (fun (a : Nat × Nat × Nat) => a.2.1 - a.1) (0, L.length, n) ?_ ?_ ?_ ?_ ?_
 ·exact ⟨Nat.zero_le _, by dsimp only; omega, W5, fun j h1 h2 => absurd h1 (by dsimp only; omega), Nat.le_refl _, by dsimp only; omega⟩
 ·(repeat first | exact LE.nil _ | refine LE.unk _ _ ?_ | refine LE.eq _ _ _ rfl ?_)
 ·exact LessH.refl _
 ·exact Nat.le_refl _
 intro ⟨lo, hi, m⟩ hI ih
 dsimp only at hI ⊢
 obtain ⟨i1, i2, i3, i4, i5, i6⟩ := hI
 have hmid : (IntKind.u64.wrap ((lo : Int) + hi)).fdiv (2 ^ (min (1 : Int).toNat IntKind.u64.bits)) = (((lo + hi) / 2 : Nat) : Int) := by
  rw [IntKind.wrap_u64, show min (1 : Int).toNat IntKind.u64.bits = 1 from rfl, Int.emod_eq_of_lt (by omega) (by omega), Int.fdiv_eq_ediv_of_nonneg _ (by decide)]
  omega
 have hp1 : lo = hi → pos s L = lo := fun e => T5 (by omega) i3 (fun h2 => i4 lo (by omega) h2)
 refine E8 (A2 (A2 (A0 (B6 j5 (B6 j5 ?_)))))
 refine I6 j6 ?_ ?_ <;> intro h3_2
 ·refine A3 (A1 (wT rfl (B0 (A1 (B3 (A2 (A0 (B6 j5 (B6 j5 (C3 j3 ?_ ?_ j3 ?_))))))))))
  ·exact Q4
  ·exact Q4
  refine rcv j7 (rshr j3 ?_ j3 ?_)
  ·exact Q4
  (refine r0 ((X5 (k' := .i64) rfl rfl rfl rfl).to (v' := .int .i64 (((lo + hi) / 2 : Nat) : Int)) (by rw [hmid, G4 (by omega) (by omega)])) rfl rfl rfl ?_)
  refine D0 j5 (A3 (A1 (A2 (A0 (rmC j5 (K1 j5 (B6 j5 ?_)))))))
  (apply T8 j4; exact Q0; rfl; exact Q4; exact Q4; exact j3)
  (apply F9 (vs := (L.getD ((lo + hi) / 2) Lk0).V (W ((lo + hi) / 2))) j2; exact Q0; exact F4 (show 0 + (((((lo + hi) / 2) : Nat)) : Int).toNat < L.length by omega); rfl; exact kb; exact lrow L W _; exact j3)
  refine S7 j5 (I9 (o88 (L.getD ((lo + hi) / 2) Lk0) _ (hW _ (by omega)) s) rfl rfl rfl rfl rfl rfl ?_)
  refine I6 j6 ?_ ?_ <;> intro h5_7
  ·refine A3 (A1 (wT rfl (A0 (B6 j5 (C3 j3 ?_ ?_ j3 ?_)))))
   ·exact Q4
   ·exact Q4
   refine D0 j5 (A3 (B7 (D1 ?_)))
   first
   | (have hx : ltS (lnm L ((lo + hi) / 2)) s := X3.1 h5_7
      exact H4 (ih ((lo + hi) / 2 + 1, hi, m + 1) ⟨by dsimp only; omega, i2, fun j hj => by dsimp only at hj; by_cases e : j = (lo + hi) / 2 <;> first | (rw [e]; exact hx) | exact I7 (hs.lt (j := (lo + hi) / 2) (by omega) (by omega)) hx, i4, by dsimp only; omega, by dsimp only; omega⟩ (by dsimp only; omega)) (by (repeat first | exact LE.nil _ | refine LE.unk _ _ ?_ | refine LE.eq _ _ _ rfl ?_)) (LessH.refl _) (Nat.le_refl _))
   | exact H4 (ih (lo, (lo + hi) / 2, m + 1) ⟨by dsimp only; omega, by dsimp only; omega, i3, fun j hj hj2 e => by
     dsimp only at hj
     refine h5_7 (X3.2 ?_)
     by_cases e2 : j = (lo + hi) / 2
     ·rw [e2] at e; exact e
     ·exact I7 (hs.lt (i := (lo + hi) / 2) (by omega) hj2) e, by dsimp only; omega, by dsimp only; omega⟩ (by dsimp only; omega)) (by (repeat first | exact LE.nil _ | refine LE.unk _ _ ?_ | refine LE.eq _ _ _ rfl ?_)) (LessH.refl _) (Nat.le_refl _)
  ·refine A3 (A1 (wF rfl (A0 (B6 j5 (D0 j5 (A3 (B7 (D1 ?_))))))))
   first
   | (have hx : ltS (lnm L ((lo + hi) / 2)) s := X3.1 h5_7
      exact H4 (ih ((lo + hi) / 2 + 1, hi, m + 1) ⟨by dsimp only; omega, i2, fun j hj => by dsimp only at hj; by_cases e : j = (lo + hi) / 2 <;> first | (rw [e]; exact hx) | exact I7 (hs.lt (j := (lo + hi) / 2) (by omega) (by omega)) hx, i4, by dsimp only; omega, by dsimp only; omega⟩ (by dsimp only; omega)) (by (repeat first | exact LE.nil _ | refine LE.unk _ _ ?_ | refine LE.eq _ _ _ rfl ?_)) (LessH.refl _) (Nat.le_refl _))
   | exact H4 (ih (lo, (lo + hi) / 2, m + 1) ⟨by dsimp only; omega, by dsimp only; omega, i3, fun j hj hj2 e => by
     dsimp only at hj
     refine h5_7 (X3.2 ?_)
     by_cases e2 : j = (lo + hi) / 2
     ·rw [e2] at e; exact e
     ·exact I7 (hs.lt (i := (lo + hi) / 2) (by omega) hj2) e, by dsimp only; omega, by dsimp only; omega⟩ (by dsimp only; omega)) (by (repeat first | exact LE.nil _ | refine LE.unk _ _ ?_ | refine LE.eq _ _ _ rfl ?_)) (LessH.refl _) (Nat.le_refl _)
 ·refine A3 (A1 (wF rfl (E5 (E6 (D7 (C8 (A1 (A2 (A0 (B6 j5 (B6 j5 (B6 j5 ?_))))))))))))
  refine I6 j6 ?_ ?_ <;> intro h8_3
  ·refine C4 j5 (rmC j5 (K1 j5 (B6 j5 ?_)))
   (apply T8 j4; exact Q0; rfl; exact Q4; exact Q4; exact j3)
   (apply F9 (vs := (L.getD lo Lk0).V (W lo)) j2; exact Q0; exact F4 (show 0 + (((lo : Nat)) : Int).toNat < L.length by omega); rfl; exact kb; exact lrow L W _; exact j3)
   refine S7 j5 (I9 (o88 (L.getD lo Lk0) _ (hW _ (by omega)) s) rfl rfl rfl rfl rfl rfl ?_)
   refine H5 j6 ?_ ?_ <;> intro h8_12
   ·refine C0 (e := true) j6 (D0 j5 (C6 j5 (A3 (A1 (A9 ?_)))))
    have e : lo = hi := (by omega); have hp1 := hp1 e; exact Q19
   ·refine C0 (e := false) j6 (D0 j5 (C6 j5 (A3 (A1 (A9 ?_)))))
    have e : lo = hi := (by omega); have hp1 := hp1 e; exact Q19
  ·refine C4 j5 (A4 j3 (A4 j3 (A4 j3 (A4 j3 (A4 j3 (A4 j3 (A4 j3 (A4 j3 (C0 (e := false) j6 (D0 j5 (C6 j5 (A3 ?_))))))))))))
   refine A1 (A9 ?_)
   have e : lo = hi := (by omega); have hp1 := hp1 e; exact Q19
theorem o87n (s : ByteArray) {h : Heap} {n : Nat} : V.Open En 87 [.nsl, .str s, .clo 88 []] h n (.tup [.int .i64 0, .bool false]) [] n := by
 refine V.Open.of_wp Try.func87 rfl kb ?_
 refine A2 (A0 (D0 j5 (C6 j5 (A3 (A1 (A2 (A0 (rmN j5 (H0 rfl rfl rfl j3 (D0 j5 (A3 (A1 ?_))))))))))))
 refine A2 (A0 (B6 j5 (D0 j5 (D0 j5 (A3 (A1 (A2 (B3 (F0 (E8 (A2 (A2 ?_))))))))))))
 refine A0 (B6 j5 (B6 j5 ?_))
 refine I6 j6 (fun h => absurd h (by decide)) ?_
 intro h3_2
 refine A3 (A1 (wF rfl (E5 (E6 (D7 (C8 (A1 (A2 (A0 (B6 j5 (B6 j5 (B6 j5 ?_))))))))))))
 refine I6 j6 (fun h => absurd h (by decide)) ?_
 intro h8_3
 refine C4 j5 (A4 j3 (A4 j3 (A4 j3 (A4 j3 (A4 j3 (A4 j3 (A4 j3 (A4 j3 (C0 (e := false) j6 (D0 j5 (C6 j5 (A3 ?_))))))))))))
 refine A1 (A9 ?_)
 exact E7 rfl rfl (fun _ _ _ e => e) (Nat.le_refl _)
theorem o87z {L : List Lk} {W : Nat → V} (hW : ∀ i, i < L.length → (W i).cell = true) (s : ByteArray) (hs : Srt L) (hL : L.length ≤ 1048576) {Sl : V} {h : Heap} {n : Nat} (hn : ∀ a, fpV Sl = some a → a < n) (k : IsZ h Sl (rwW L W) 5 29) :
  V.Open En 87 [Sl, .str s, .clo 88 []] h n (.tup [.int .i64 (pos s L), .bool (decide (hit s L))]) [] (n + L.length + 1) := by
 rcases k with ⟨rfl, k⟩ | ⟨lb, rfl, k⟩
 ·have hl : L.length = 0 := by have := congrArg List.length k; rw [B5] at this; exact this
  have : L = [] := List.eq_nil_of_length_eq_zero hl
  subst this
  rw [decide_eq_false (fun e : hit s [] => Nat.not_lt_zero _ e.1)]
  exact V.Open.weakN (o87n s) (by simp)
 ·rw [B5]; exact o87w L W hW s hs hL (hn lb rfl) k
theorem o48y (t : Tb) (W : Nat → V) (s : ByteArray) (hs : Srt t.lk) (hL : t.lk.length ≤ 1000) (hh :  hit s t.lk) {id : Nat} {Sl Ss : V} {h : Heap} {n : Nat} (T : TabM t id Sl Ss W h n) : V.Open En 48 [.ptr id 0 0, .str s] h n (.tup [.int .i64 (pos s t.lk), .bool true]) [] (n + t.lk.length + 1) := by
 have hf := o87z (fun i hi => (T.kw i hi).cell) s hs (by omega) (fun a ha => (T.fl a ha).1) T.kl
 rw [decide_eq_true hh] at hf
 have kc := T.kl.cell
 refine V.Open.of_wp Try.func48 rfl kb ?_
 refine A2 (A0 (D0 j5 (C6 j5 (A3 (A1 (A2 (A0 (D9 j5 (F6 (v := .ptr _ _ _) j6 (C1 (off := 2) (s := 1) (r := false) j3 kz j3 ?_))))))))))
 (apply C5 (v := Sl) j2; exact T.kid; rfl; exact j5)
 refine S7 j5 (I9 hf rfl rfl rfl rfl rfl rfl (T6 j6 (T6 j6 (D0 j5 (C6 j5 (A3 (A1 (A9 ?_))))))))
 exact E7 rfl rfl (fun _ _ _ e => e) (Nat.le_refl _)
theorem o48x (t : Tb) (W : Nat → V) (s : ByteArray) (hs : Srt t.lk) (hL : t.lk.length ≤ 1000) (hh : ¬ hit s t.lk) {id : Nat} {Sl Ss : V} {h : Heap} {n : Nat} (T : TabM t id Sl Ss W h n) : V.Open En 48 [.ptr id 0 0, .str s] h n (.tup [.int .i64 (pos s t.lk), .bool false]) [] (n + t.lk.length + 1) := by
 have hf := o87z (fun i hi => (T.kw i hi).cell) s hs (by omega) (fun a ha => (T.fl a ha).1) T.kl
 rw [decide_eq_false hh] at hf
 have kc := T.kl.cell
 refine V.Open.of_wp Try.func48 rfl kb ?_
 refine A2 (A0 (D0 j5 (C6 j5 (A3 (A1 (A2 (A0 (D9 j5 (F6 (v := .ptr _ _ _) j6 (C1 (off := 2) (s := 1) (r := false) j3 kz j3 ?_))))))))))
 (apply C5 (v := Sl) j2; exact T.kid; rfl; exact j5)
 refine S7 j5 (I9 hf rfl rfl rfl rfl rfl rfl (T6 j6 (T6 j6 (D0 j5 (C6 j5 (A3 (A1 (A9 ?_))))))))
 exact E7 rfl rfl (fun _ _ _ e => e) (Nat.le_refl _)
theorem o108w (L : List Sn) (c : Int) (hc : 0 ≤ c ∧ c ≤ 255) (hcl : ∀ j, j < L.length → 0 ≤ (L.getD j Sn0).cl ∧ (L.getD j Sn0).cl ≤ 255) (hs : SrtS L) (hL : L.length ≤ 1048576) {sb : Nat} {h : Heap} {n : Nat} (hsb : sb < n) (k1 : h sb = some ⟨L.map Sn.V, 6, 115⟩) : V.Open En 108 [.view sb 0 L.length, .int .i64 c, .clo 109 []] h n (.tup [.int .i64 (snP c L), .bool (decide (snH c L))]) [] n := by
 refine V.Open.of_wp Try.func108 rfl kb ?_
 refine A2 (A0 (D0 j5 (C6 j5 (A3 (A1 (A2 (A0 (K1 j5 (H0 rfl rfl rfl j3 (D0 j5 (A3 (A1 ?_))))))))))))
 refine A2 (A0 (B6 j5 (D0 j5 (D0 j5 (A3 (A1 (A2 (B3 (F0 ?_)))))))))
 refine E9 (fun (a : Nat × Nat) => [.view sb 0 L.length, .int .i64 c, .clo 109 [], .unk, .unk, .unk, .unk, .unk, .int .i64 L.length, .int .i64 a.1, .int .i64 a.2]) (fun (a : Nat × Nat) => h) (fun (a : Nat × Nat) => n) (fun (a : Nat × Nat) => a.1 ≤ a.2 ∧ a.2 ≤ L.length ∧ (∀ j, j < a.1 → scl L j < c) ∧ (∀ j, a.2 ≤ j → j < L.length → ¬ scl L j < c)) (fun (a : Nat × Nat) => a.2 - a.1) (0, L.length) ?_ ?_ ?_ ?_ ?_
 ·exact ⟨Nat.zero_le _, by dsimp only; omega, W5, fun j h1 h2 => absurd h1 (by dsimp only; omega)⟩
 ·(repeat first | exact LE.nil _ | refine LE.unk _ _ ?_ | refine LE.eq _ _ _ rfl ?_)
 ·exact LessH.refl _
 ·exact Nat.le_refl _
 intro ⟨lo, hi⟩ hI ih
 dsimp only at hI ⊢
 obtain ⟨i1, i2, i3, i4⟩ := hI
 have hmid : (IntKind.u64.wrap ((lo : Int) + hi)).fdiv (2 ^ (min (1 : Int).toNat IntKind.u64.bits)) = (((lo + hi) / 2 : Nat) : Int) := by
  rw [IntKind.wrap_u64, show min (1 : Int).toNat IntKind.u64.bits = 1 from rfl, Int.emod_eq_of_lt (by omega) (by omega), Int.fdiv_eq_ediv_of_nonneg _ (by decide)]
  omega
 have hp1 : lo = hi → snP c L = lo := fun e => Y9 (by omega) i3 (fun h2 => i4 lo (by omega) h2)
 refine E8 (A2 (A2 (A0 (B6 j5 (B6 j5 ?_)))))
 refine I6 j6 ?_ ?_ <;> intro h3_2
 ·refine A3 (A1 (wT rfl (B0 (A1 (B3 (A2 (A0 (B6 j5 (B6 j5 (C3 j3 ?_ ?_ j3 ?_))))))))))
  ·exact Q4
  ·exact Q4
  refine rcv j7 (rshr j3 ?_ j3 ?_)
  ·exact Q4
  (refine r0 ((X5 (k' := .i64) rfl rfl rfl rfl).to (v' := .int .i64 (((lo + hi) / 2 : Nat) : Int)) (by rw [hmid, G4 (by omega) (by omega)])) rfl rfl rfl ?_)
  refine D0 j5 (A3 (A1 (A2 (A0 (rmC j5 (K1 j5 (B6 j5 ?_)))))))
  (apply T8 j4; exact Q0; rfl; exact Q4; exact Q4; exact j3)
  (apply F9 (vs := Sn.V (L.getD ((lo + hi) / 2) Sn0)) j2; exact Q0; exact D8 Sn.V Sn0 (show 0 + (((((lo + hi) / 2) : Nat)) : Int).toNat < L.length by omega); rfl; exact kb; exact srow _ _; exact j3)
  refine B6 j5 ?_
  refine AB (p109 (L.getD ((lo + hi) / 2) Sn0) c (by have := hcl ((lo + hi) / 2) (by omega); omega)) rfl j5 ?_
  refine I6 j6 ?_ ?_ <;> intro h5_7
  ·refine A3 (A1 (wT rfl (A0 (B6 j5 (C3 j3 ?_ ?_ j3 ?_)))))
   ·exact Q4
   ·exact Q4
   refine D0 j5 (A3 (B7 (D1 ?_)))
   have hm := hcl ((lo + hi) / 2) (by omega)
   first
   | (have hx : scl L ((lo + hi) / 2) < c := (by unfold scl; omega)
      exact H4 (ih ((lo + hi) / 2 + 1, hi) ⟨by dsimp only; omega, i2, fun j hj => by dsimp only at hj; by_cases e : j = (lo + hi) / 2 <;> first | (rw [e]; exact hx) | exact Int.lt_trans (hs.lt (j := (lo + hi) / 2) (by omega) (by omega)) hx, i4⟩ (by dsimp only; omega)) (by (repeat first | exact LE.nil _ | refine LE.unk _ _ ?_ | refine LE.eq _ _ _ rfl ?_)) (LessH.refl _) (Nat.le_refl _))
   | (have hx : ¬ scl L ((lo + hi) / 2) < c := (by unfold scl; omega)
      exact H4 (ih (lo, (lo + hi) / 2) ⟨by dsimp only; omega, by dsimp only; omega, i3, fun j hj hj2 e => by
       dsimp only at hj
       refine hx ?_
       by_cases e2 : j = (lo + hi) / 2
       · rw [e2] at e; exact e
       · exact Int.lt_trans (hs.lt (i := (lo + hi) / 2) (by omega) hj2) e⟩ (by dsimp only; omega)) (by (repeat first | exact LE.nil _ | refine LE.unk _ _ ?_ | refine LE.eq _ _ _ rfl ?_)) (LessH.refl _) (Nat.le_refl _))
  ·refine A3 (A1 (wF rfl (A0 (B6 j5 (D0 j5 (A3 (B7 (D1 ?_))))))))
   have hm := hcl ((lo + hi) / 2) (by omega)
   first
   | (have hx : scl L ((lo + hi) / 2) < c := (by unfold scl; omega)
      exact H4 (ih ((lo + hi) / 2 + 1, hi) ⟨by dsimp only; omega, i2, fun j hj => by dsimp only at hj; by_cases e : j = (lo + hi) / 2 <;> first | (rw [e]; exact hx) | exact Int.lt_trans (hs.lt (j := (lo + hi) / 2) (by omega) (by omega)) hx, i4⟩ (by dsimp only; omega)) (by (repeat first | exact LE.nil _ | refine LE.unk _ _ ?_ | refine LE.eq _ _ _ rfl ?_)) (LessH.refl _) (Nat.le_refl _))
   | (have hx : ¬ scl L ((lo + hi) / 2) < c := (by unfold scl; omega)
      exact H4 (ih (lo, (lo + hi) / 2) ⟨by dsimp only; omega, by dsimp only; omega, i3, fun j hj hj2 e => by
       dsimp only at hj
       refine hx ?_
       by_cases e2 : j = (lo + hi) / 2
       · rw [e2] at e; exact e
       · exact Int.lt_trans (hs.lt (i := (lo + hi) / 2) (by omega) hj2) e⟩ (by dsimp only; omega)) (by (repeat first | exact LE.nil _ | refine LE.unk _ _ ?_ | refine LE.eq _ _ _ rfl ?_)) (LessH.refl _) (Nat.le_refl _))
 ·refine A3 (A1 (wF rfl (E5 (E6 (D7 (C8 (A1 (A2 (A0 (B6 j5 (B6 j5 (B6 j5 ?_))))))))))))
  refine I6 j6 ?_ ?_ <;> intro h8_3
  ·refine C4 j5 (rmC j5 (K1 j5 (B6 j5 ?_)))
   (apply T8 j4; exact Q0; rfl; exact Q4; exact Q4; exact j3)
   (apply F9 (vs := Sn.V (L.getD lo Sn0)) j2; exact Q0; exact D8 Sn.V Sn0 (show 0 + (((lo : Nat)) : Int).toNat < L.length by omega); rfl; exact kb; exact srow _ _; exact j3)
   refine B6 j5 ?_
   refine AB (p109 (L.getD lo Sn0) c (by have := hcl lo (by omega); omega)) rfl j5 ?_
   refine H5 j6 ?_ ?_ <;> intro h8_12
   ·refine C0 (e := true) j6 (D0 j5 (C6 j5 (A3 (A1 (A9 ?_)))))
    have e : lo = hi := (by omega)
    have hp1 := hp1 e
    first
    | (have hd : snH c L := (by unfold snH; rw [hp1]; exact ⟨by omega, by omega⟩); rw [decide_eq_true hd, hp1]; exact E7 rfl rfl (fun _ _ _ e => e) (by omega))
    | (have hd : ¬ snH c L := (fun hq => by have q1 := hq.1; have q2 := hq.2; rw [hp1] at q1 q2; omega); rw [decide_eq_false hd, hp1]; exact E7 rfl rfl (fun _ _ _ e => e) (by omega))
   ·refine C0 (e := false) j6 (D0 j5 (C6 j5 (A3 (A1 (A9 ?_)))))
    have e : lo = hi := (by omega)
    have hp1 := hp1 e
    first
    | (have hd : snH c L := (by unfold snH; rw [hp1]; exact ⟨by omega, by omega⟩); rw [decide_eq_true hd, hp1]; exact E7 rfl rfl (fun _ _ _ e => e) (by omega))
    | (have hd : ¬ snH c L := (fun hq => by have q1 := hq.1; have q2 := hq.2; rw [hp1] at q1 q2; omega); rw [decide_eq_false hd, hp1]; exact E7 rfl rfl (fun _ _ _ e => e) (by omega))
  ·refine C4 j5 (A4 j3 (A4 j3 (A4 j3 (A4 j3 (A4 j3 (A4 j3 (A4 j3 (A4 j3 (C0 (e := false) j6 (D0 j5 (C6 j5 (A3 ?_))))))))))))
   refine A1 (A9 ?_)
   have e : lo = hi := (by omega)
   have hp1 := hp1 e
   first
   | (have hd : snH c L := (by unfold snH; rw [hp1]; exact ⟨by omega, by omega⟩); rw [decide_eq_true hd, hp1]; exact E7 rfl rfl (fun _ _ _ e => e) (by omega))
   | (have hd : ¬ snH c L := (fun hq => by have q1 := hq.1; have q2 := hq.2; rw [hp1] at q1 q2; omega); rw [decide_eq_false hd, hp1]; exact E7 rfl rfl (fun _ _ _ e => e) (by omega))
theorem o108n (c : Int) {h : Heap} {n : Nat} : V.Open En 108 [.nsl, .int .i64 c, .clo 109 []] h n (.tup [.int .i64 0, .bool false]) [] n := by
 refine V.Open.of_wp Try.func108 rfl kb ?_
 refine A2 (A0 (D0 j5 (C6 j5 (A3 (A1 (A2 (A0 (rmN j5 (H0 rfl rfl rfl j3 (D0 j5 (A3 (A1 ?_))))))))))))
 refine A2 (A0 (B6 j5 (D0 j5 (D0 j5 (A3 (A1 (A2 (B3 (F0 (E8 (A2 (A2 ?_))))))))))))
 refine A0 (B6 j5 (B6 j5 ?_))
 refine I6 j6 (fun h => absurd h (by decide)) ?_
 intro h3_2
 refine A3 (A1 (wF rfl (E5 (E6 (D7 (C8 (A1 (A2 (A0 (B6 j5 (B6 j5 (B6 j5 ?_))))))))))))
 refine I6 j6 (fun h => absurd h (by decide)) ?_
 intro h8_3
 refine C4 j5 (A4 j3 (A4 j3 (A4 j3 (A4 j3 (A4 j3 (A4 j3 (A4 j3 (A4 j3 (C0 (e := false) j6 (D0 j5 (C6 j5 (A3 ?_))))))))))))
 refine A1 (A9 ?_)
 exact E7 rfl rfl (fun _ _ _ e => e) (Nat.le_refl _)
theorem o108z {L : List Sn} (c : Int) (hc : 0 ≤ c ∧ c ≤ 255) (hcl : ∀ j, j < L.length → 0 ≤ (L.getD j Sn0).cl ∧ (L.getD j Sn0).cl ≤ 255) (hs : SrtS L) (hL : L.length ≤ 1048576) {Ss : V} {h : Heap} {n : Nat} (hn : ∀ a, fpV Ss = some a → a < n) (k : IsZ h Ss (L.map Sn.V) 6 115) :
  V.Open En 108 [Ss, .int .i64 c, .clo 109 []] h n (.tup [.int .i64 (snP c L), .bool (decide (snH c L))]) [] n := by
 rcases k with ⟨rfl, k⟩ | ⟨sb, rfl, k⟩
 ·have : L = [] := List.map_eq_nil_iff.1 k
  subst this
  rw [decide_eq_false (fun e : snH c [] => Nat.not_lt_zero _ e.1)]
  exact o108n c
 ·rw [List.length_map]; exact o108w L c hc hcl hs hL (hn sb rfl) k
theorem L0 (nm : ByteArray) (tk hd ex kd : Int) (W : V) {lb j : Nat} {R : List (List V)} {h : Heap} {n : Nat} (hlb : lb < n) (k1 : h lb = some ⟨R, 5, 29⟩) (k2 : R[j]? = some [.str nm, .int .i64 tk, .int .i64 hd, .int .i64 ex, W]) : V.Open En 136 [.ptr lb j 0, .int .i64 kd] h n (.agg [.int .i64 kd, .int .i64 tk, .int .i64 hd, .int .i64 ex]) [] (n + 1) := by
 refine V.Open.of_wp Try.func136 rfl kb ?_
 refine A2 (A0 (H3 j6 (A3 (A1 (A2 (C2 [0, 0, 2, 6, 14, 0, 32, 96, 224, 0, 512, 1536, 3584, 8191, 16383] rfl (by decide +kernel) ?_))))))
 refine I0 j5 (G6 j5 (G7 (v := .ptr _ _ _) j6 (D6 (off := 1) (s := 1) (r := false) j3 kz j3 ?_)))
 (apply E1 (v := .int _ _) j2; exact Q0; exact C7; exact j5)
 refine G6 j5 (G7 (v := .ptr _ _ _) j6 (D6 (off := 2) (s := 1) (r := false) j3 kz j3 ?_))
 (apply E1 (v := .int _ _) j2; exact Q0; exact C7; exact j5)
 refine G6 j5 (G7 (v := .ptr _ _ _) j6 (D6 (off := 3) (s := 1) (r := false) j3 kz j3 ?_))
 (apply E1 (v := .int _ _) j2; exact Q0; exact C7; exact j5)
 refine dbd (cs := [.int _ _, .int _ _, .int _ _, .int _ _]) j5 ?_
 (apply dst (u := .agg [.int _ _, .int _ _, .int _ _, .int _ _]) rfl rfl rfl; exact Q0; exact C7; rfl; rfl; rfl; rfl; exact kb; rfl; rfl; rfl)
 refine B1 15 [3, 0, 1, 0, 0, 0, 1, 0, 0, 0, 1, 0, 0, 0, 0] [] j2 (by decide +kernel) trivial ?_
 refine A1 (A9 ?_)
 exact E7 (A5 (A7 rfl (by exact Q0) j2 kb rfl) A8) rfl (K8 (fun j hj => absurd hj List.not_mem_nil) (fun j hj hn => by first | rfl | (simp (disch := omega) only [↓app0, ↓appC, ↓updS, ↓updN]))) (Nat.le_refl _)
theorem p110 (kd : Int) : Pure En 110 [.one (.int .i64 kd)] [.agg [.int .i64 kd, .int .i64 0, .int .i64 (-1), .int .i64 0]] := by
 refine Pure.of_wp Try.func110 rfl kb ?_
 refine A2 (A0 (H3 j6 (A3 (A1 (A2 (A0 (B6 j5 (L6 (cs := [.int _ _, .int _ _, .int _ _, .int _ _]) j5 (D4 (u := .agg [.int _ _, .int _ _, .int _ _, .int _ _]) j3 rfl rfl rfl rfl rfl rfl kb rfl j2 (A3 (A1 (A9 ?_))))))))))))
 exact fin rfl rfl
open Go.V
set_option linter.unusedVariables false
set_option linter.unusedSimpArgs false
set_option maxRecDepth 20000
set_option maxHeartbeats 4000000
def exM (M nx : Int) (L : List Lk) (i : Nat) : List Lk := (List.range L.length).map fun j => if j < i then exF M (nxL M nx (L.take j)) (L.getD j Lk0) else L.getD j Lk0
theorem F1 (M nx : Int) (L : List Lk) (i : Nat) : (exM M nx L i).length = L.length := by simp [exM]
theorem AL {M nx : Int} {L : List Lk} {i j : Nat} (h : j < L.length) : (exM M nx L i).getD j Lk0 = if j < i then exF M (nxL M nx (L.take j)) (L.getD j Lk0) else L.getD j Lk0 := by
 simp [exM, List.getD_eq_getElem?_getD, h]
theorem exM_zero (M nx : Int) (L : List Lk) : exM M nx L 0 = L := by
 apply List.ext_getElem?
 intro j
 by_cases hj : j < L.length
 ·simp [exM, hj]
 ·rw [List.getElem?_eq_none (by rw [F1]; omega), List.getElem?_eq_none (by omega)]
theorem exM_full (M nx : Int) (L : List Lk) : exM M nx L L.length = exL M nx L := by
 unfold exM exL
 exact List.map_congr_left fun j hj => if_pos (List.mem_range.1 hj)
theorem exM_set {M nx : Int} {L : List Lk} {i : Nat} (h : i < L.length) : (exM M nx L i).set i (exF M (nxL M nx (L.take i)) (L.getD i Lk0)) = exM M nx L (i + 1) := by
 apply List.ext_getElem?
 intro j
 rw [List.getElem?_set, F1]
 by_cases hj : j < L.length
 ·have e1 : ∀ k, (exM M nx L k)[j]? = some (if j < k then exF M (nxL M nx (L.take j)) (L.getD j Lk0) else L.getD j Lk0) := fun k => by simp [exM, hj]
  rw [e1, e1]
  by_cases e : i = j
  ·subst e; rw [if_pos rfl, if_pos h, if_pos (by omega)]
  ·rw [if_neg e]
   by_cases h3 : j < i
   ·rw [if_pos h3, if_pos (by omega)]
   ·rw [if_neg h3, if_neg (by omega)]
 ·rw [if_neg (by omega), List.getElem?_eq_none (by rw [F1]; omega), List.getElem?_eq_none (by rw [F1]; omega)]
theorem exM_same {M nx : Int} {L : List Lk} {i : Nat} (h : i < L.length) (hg : ¬ gone M (L.getD i Lk0)) : exM M nx L i = exM M nx L (i + 1) := by
 rw [← exM_set h, show exF M (nxL M nx (L.take i)) (L.getD i Lk0) = L.getD i Lk0 from if_neg hg]
 apply List.ext_getElem?
 intro j
 rw [List.getElem?_set, F1]
 by_cases e : i = j
 ·subst e
  rw [if_pos rfl, if_pos h]
  have : (exM M nx L i)[i]? = some (if i < i then exF M (nxL M nx (L.take i)) (L.getD i Lk0) else L.getD i Lk0) := by simp [exM, h]
  rw [this, if_neg (Nat.lt_irrefl _)]
 ·rw [if_neg e]
def exI (t : Tb) (M : Int) (i : Nat) : Tb := ⟨M, nxL M t.nx (t.lk.take i), exM M t.nx t.lk i, t.sn⟩
theorem exI_zero (t : Tb) (M : Int) : exI t M 0 = ⟨M, t.nx, t.lk, t.sn⟩ := by unfold exI; rw [exM_zero, List.take_zero]; rfl
theorem exI_full (t : Tb) (now : Int) : exI t (max t.tm now) t.lk.length = exT t now := by unfold exI exT; rw [exM_full, List.take_length]
theorem exN_bd2 {tm nx : Int} {l : Lk} : nx ≤ exN tm nx l ∧ exN tm nx l ≤ nx + 1 := by unfold exN; split <;> omega
structure GoI (t : Tb) (M : Int) (id n0 : Nat) (Sl Ss : V) (W0 : Nat → V) (h0 : Heap) (i m : Nat) (W : Nat → V) (g : Heap) : Prop where
 le : i ≤ t.lk.length
 T : TabM (exI t M i) id Sl Ss W g m
 fp : ∀ j a, j < t.lk.length → fpV (W j) = some a → fpV (W0 j) = some a ∨ n0 ≤ a
 fr : ∀ a, a < n0 → ¬ OwnT id Sl Ss W0 t.lk.length a → g a = h0 a
 nn : n0 ≤ m
 ch : Ch h0 g
 nxb : t.nx ≤ nxL M t.nx (t.lk.take i) ∧ nxL M t.nx (t.lk.take i) ≤ t.nx + (i : Int)
theorem GoI.stay {t : Tb} {M : Int} {id n0 : Nat} {Sl Ss : V} {W0 : Nat → V} {h0 : Heap} {i m m2 : Nat} {W : Nat → V} {g g2 : Heap} (G : GoI t M id n0 Sl Ss W0 h0 i m W g) (hi : i < t.lk.length) (hg : ¬ gone M (t.lk.getD i Lk0)) (hm : m ≤ m2) (e : ∀ a, a < m → g2 a = g a) (hch : Ch g g2) :
  GoI t M id n0 Sl Ss W0 h0 (i + 1) m2 W g2 := by
 have hn : exN M (nxL M t.nx (t.lk.take i)) (t.lk.getD i Lk0) = nxL M t.nx (t.lk.take i) := if_neg (fun e => hg e.1)
 have hx : exI t M (i + 1) = exI t M i := by unfold exI; rw [I1 hi, hn, exM_same hi hg]
 refine ⟨by omega, by rw [hx]; exact G.T.ext hm e, G.fp, fun a ha hna => (e a (by have := G.nn; omega)).trans (G.fr a ha hna), by have := G.nn; omega, G.ch.trans hch, ?_⟩
 rw [I1 hi, hn]; have := G.nxb; omega
theorem GoI.free {t : Tb} {M : Int} {id n0 : Nat} {Sl Ss : V} {W0 : Nat → V} {h0 : Heap} {i m m2 : Nat} {W : Nat → V} {g g2 : Heap} (G : GoI t M id n0 Sl Ss W0 h0 i m W g) (hi : i < t.lk.length) (hg : gone M (t.lk.getD i Lk0)) (hm : m ≤ m2)
  {lb len : Nat} (hSl : Sl = .view lb 0 len) (w : V) (g1 : g2 id = some ⟨[[.int .i64 M, .int .i64 (frN (nxL M t.nx (t.lk.take i)) (t.lk.getD i Lk0)), Sl, Ss]], 4, 35⟩)
  (gl : g2 lb = some ⟨(rwW (exM M t.nx t.lk i) W).set i ((frL M (nxL M t.nx (t.lk.take i)) (t.lk.getD i Lk0)).V w), 5, 29⟩) (g3 : IsL g2 w ((frL M (nxL M t.nx (t.lk.take i)) (t.lk.getD i Lk0)).ws.map wtV) 2 123)
  (g4 : ∀ a, fpV w = some a → a < m2 ∧ (fpV (W i) = some a ∨ m ≤ a)) (g5 : ∀ a, a < m → a ≠ id → a ≠ lb → g2 a = g a) (hch : Ch g g2) :
  GoI t M id n0 Sl Ss W0 h0 (i + 1) m2 (fun j => if j = i then w else W j) g2 := by
 have T := G.T
 have hl : (exM M t.nx t.lk i).length = t.lk.length := F1 ..
 have hi2 : i < (exI t M i).lk.length := by show i < (exM M t.nx t.lk i).length; rw [hl]; exact hi
 have hx : exI t M (i + 1) = ⟨M, frN (nxL M t.nx (t.lk.take i)) (t.lk.getD i Lk0), (exI t M i).lk.set i (frL M (nxL M t.nx (t.lk.take i)) (t.lk.getD i Lk0)), (exI t M i).sn⟩ := by
  unfold exI; dsimp only; rw [I1 hi, exN_fr hg, ← exM_set hi, exF_fr hg]
 have fSl : fpV Sl = some lb := by rw [hSl]; rfl
 refine ⟨by omega, ?_, fun j a hj ha => ?_, fun a ha hna => ?_, by have := G.nn; omega, G.ch.trans hch, ?_⟩
 ·rw [hx]
  exact T.setLk hi2 hSl _ w M _ hm g1 gl g3 g4 (fun a o h1 h2 _ => g5 a (T.lt o) h1 h2)
 ·by_cases e : j = i
  ·rw [if_pos e] at ha
   rcases (g4 a ha).2 with h | h
   ·have := G.fp i a hi h
    rw [e]; exact this
   ·exact .inr (by have := G.nn; omega)
  ·rw [if_neg e] at ha; exact G.fp j a hj ha
 ·have h1 : a ≠ id := fun e => hna (.inl e)
  have h2 : a ≠ lb := fun e => hna (.inr (.inl (by rw [e]; exact fSl)))
  exact (g5 a (by have := G.nn; omega) h1 h2).trans (G.fr a ha hna)
 ·rw [I1 hi]; have := G.nxb; have := exN_bd2 (tm := M) (nx := nxL M t.nx (t.lk.take i)) (l := t.lk.getD i Lk0); omega
theorem o96n (nm : ByteArray) (tk hd ex tm nx : Int) (Sl Ss : V) {id lb j : Nat} {R : List (List V)} {h : Heap} {n : Nat} (hid : id < n) (hlb : lb < n) (hne : lb ≠ id) (hh : h id = some ⟨[[.int .i64 tm, .int .i64 nx, Sl, Ss]], 4, 35⟩) (hj : j < R.length) (k1 : h lb = some ⟨R, 5, 29⟩) (k2 : R[j]? = some [.str nm, .int .i64 tk, .int .i64 hd, .int .i64 ex, .nsl]) : V.Open En 96 [.ptr id 0 0, .ptr lb j 0] h n (.tup []) [(lb, some ⟨R.set j [.str nm, .int .i64 tk, .int .i64 (-1), .int .i64 0, .nsl], 5, 29⟩), (id, some ⟨[[.int .i64 tm, .int .i64 nx, Sl, Ss]], 4, 35⟩)] (n + 1) := by
 refine V.Open.of_wp Try.func96 rfl kb ?_
 refine A2 (A2 (A0 (D9 j5 (F6 (v := .ptr _ _ _) j6 (C1 (off := 4) (s := 1) (r := false) j3 kz j3 ?_)))))
 (apply C5 (v := .nsl) j2; exact Q0; exact Q9; exact j5)
 refine H0 rfl rfl rfl j3 ?_
 refine H5 j6 ?_ (fun h => absurd (rfl) h)
 intro h0_5
 refine A3 (A1 (wT rfl (A2 (A0 (D9 j5 (D9 j5 (F6 (v := .ptr _ _ _) j6 (C1 (off := 2) (s := 1) (r := false) j3 kz j3 ?_))))))))
 (apply D4 (u := .int _ _) j3; exact Q0; exact Q9; rfl; rfl; rfl; rfl; exact kb; rfl; exact j2)
 refine F6 (v := .ptr _ _ _) j6 (C1 (off := 3) (s := 1) (r := false) j3 kz j3 ?_)
 (apply D4 (u := .int _ _) j3; exact Q0; exact Q9; rfl; rfl; rfl; rfl; exact kb; rfl; exact j2)
 refine A3 (A1 (A9 (B2 ?_)))
 exact E7 rfl rfl (K8 (by
  intro jx hjx
  simp only [List.map_cons, List.map_nil, List.mem_cons, List.not_mem_nil, or_false] at hjx
  rcases hjx with rfl | rfl <;> (simp (disch := omega) only [↓appC, ↓updN, ↓updS, ↓app0]) <;> first | rfl | exact hh | (focus (simp only [List.set_set]; done)) | (simp only [List.set_set]; rfl)) (fun jx hjx hn => by
  simp only [List.map_cons, List.map_nil, List.mem_cons, List.not_mem_nil, or_false, not_or] at hn
  (simp (disch := omega) only [↓appC, ↓updN, ↓updS, ↓app0]))) (Nat.le_succ _)
theorem o96w (l : Lk) (w : V) (tm nx : Int) (Sl Ss : V) (ht : 0 ≤ tm ∧ tm ≤ 1000000000) (hn : 0 ≤ nx ∧ nx ≤ 1000000) (hw : ∀ i, i < l.ws.length → 1 ≤ (l.ws.getD i (0, 0)).2 ∧ (l.ws.getD i (0, 0)).2 ≤ 1000) {id lb j : Nat} {R : List (List V)} {h : Heap} {n : Nat} (hid : id < n) (hlb : lb < n) (hne : lb ≠ id) (hh : h id = some ⟨[[.int .i64 tm, .int .i64 nx, Sl, Ss]], 4, 35⟩) (hj : j < R.length) (k1 : h lb = some ⟨R, 5, 29⟩) (k2 : R[j]? = some (l.V w)) (k3 : IsL h w (l.ws.map wtV) 2 123) (k4 : ∀ a, fpV w = some a → a < n ∧ a ≠ lb ∧ a ≠ id) :
  ∃ w' : V, (fpV w' = fpV w ∧ IsL h w' ((frL tm nx l).ws.map wtV) 2 123) ∧ V.Open En 96 [.ptr id 0 0, .ptr lb j 0] h n (.tup []) [(lb, some ⟨R.set j ((frL tm nx l).V w'), 5, 29⟩), (id, some ⟨[[.int .i64 tm, .int .i64 (frN nx l), Sl, Ss]], 4, 35⟩)] (n + 1) := by
 obtain ⟨nm, tk, hd, ex, ws⟩ := l
 cases ws with
 | nil =>
  rcases k3 with ⟨rfl, _⟩ | ⟨wb, pre, rfl, k⟩
  ·exact ⟨.nsl, ⟨rfl, .inl ⟨rfl, rfl⟩⟩, o96n nm tk hd ex tm nx Sl Ss hid hlb hne hh hj k1 k2⟩
  ·exact ⟨.view wb pre.length 0, ⟨rfl, .inr ⟨wb, pre, rfl, k⟩⟩, o96a nm tk hd ex tm nx wb pre.length Sl Ss hid hlb hne hh hj k1 k2⟩
 | cons a r =>
  rcases k3 with ⟨_, k⟩ | ⟨wb, pre, rfl, k⟩
  ·cases k
  ·have hw0 := hw 0 (by simp)
   simp only [List.getD_eq_getElem?_getD, List.getElem?_cons_zero, Option.getD_some] at hw0
   have q := k4 wb rfl
   have k2' : R[j]? = some [.str nm, .int .i64 tk, .int .i64 hd, .int .i64 ex, .view wb pre.length (r.length + 1)] := by rw [k2]; simp [Lk.V]
   refine ⟨.view wb (pre.length + 1) r.length, ⟨rfl, .inr ⟨wb, pre ++ [wtV a], by simp [frL], by rw [k]; simp [frL]⟩⟩, ?_⟩
   exact o96b nm tk hd ex tm nx a.1 a.2 wb pre.length r.length Sl Ss (pre ++ (a :: r).map wtV) ht hn ⟨by omega, hw0.2⟩ hid hlb q.1 hne q.2.1 q.2.2 hh hj k1 k2' k (by simp [wtV]) (by simp)
theorem o60v (t : Tb) (now : Int) {M : Int} (hMx : max t.tm now = M) (hM : 0 ≤ M ∧ M ≤ 1000000000) (hn : 0 ≤ t.nx ∧ t.nx ≤ 999900) (hL : t.lk.length ≤ 100) (hwl : ∀ j, j < t.lk.length → ∀ i, i < (t.lk.getD j Lk0).ws.length → 1 ≤ ((t.lk.getD j Lk0).ws.getD i (0, 0)).2 ∧ ((t.lk.getD j Lk0).ws.getD i (0, 0)).2 ≤ 1000)
  {id lb : Nat} {Ss : V} {W0 : Nat → V} {h : Heap} {n : Nat} (T : TabM t id (.view lb 0 t.lk.length) Ss W0 h n) : OpenM En 60 [.ptr id 0 0, .int .i64 now] h n (fun v g m => v = .tup [] ∧ ∃ W, TabM (exT t now) id (.view lb 0 t.lk.length) Ss W g m ∧ (∀ j a, j < t.lk.length → fpV (W j) = some a → fpV (W0 j) = some a ∨ n ≤ a) ∧ (∀ a, a < n → ¬ OwnT id (.view lb 0 t.lk.length) Ss W0 t.lk.length a → g a = h a) ∧ n ≤ m) := by
 have kid := T.kid
 have hid := T.idn
 refine OpenM.of_wp Try.func60 rfl kb ?_
 refine A2 (A0 (D9 j5 (D9 j5 (F6 (v := .ptr _ _ _) j6 (C1 (off := 0) (s := 1) (r := false) j3 kz j3 ?_)))))
 (apply C5 (v := .int _ _) j2; exact Q17; exact Q39; exact j5)
 refine B6 j5 (rmax rfl j5 (F6 (v := .ptr _ _ _) j6 (C1 (off := 0) (s := 1) (r := false) j3 kz j3 ?_)))
 (apply D4 (u := .int _ _) j3; exact Q17; exact Q39; rfl; rfl; rfl; rfl; exact kb; rfl; exact j2)
 refine A3 (A1 (A2 (A0 (D9 j5 (F6 (v := .ptr _ _ _) j6 (C1 (off := 2) (s := 1) (r := false) j3 kz j3 ?_))))))
 (apply C5 (v := .view _ _ _) j2; exact Q17; exact Q39; exact j5)
 refine H0 rfl rfl rfl j3 (B6 j5 (A3 (A1 (B3 (F0 ?_)))))
 refine wlG fun g0 hg0 => ?_
 refine E9 (fun (a : Nat × Nat × (Nat → V) × Heap) => [.ptr id 0 0, .unk, .unk, .unk, .unk, .unk, .unk, .unk, .unk, .unk, .unk, .unk, .unk, .unk, .unk, .unk, .unk, .unk, .view lb 0 t.lk.length, .int .i64 t.lk.length, .int .i64 a.1]) (fun (a : Nat × Nat × (Nat → V) × Heap) => a.2.2.2) (fun (a : Nat × Nat × (Nat → V) × Heap) => a.2.1) (fun (a : Nat × Nat × (Nat → V) × Heap) => GoI t M id n (.view lb 0 t.lk.length) Ss W0 h a.1 a.2.1 a.2.2.1 a.2.2.2) (fun (a : Nat × Nat × (Nat → V) × Heap) => t.lk.length - a.1) (0, n, W0, g0) ?_ ?_ ?_ ?_ ?_
 ·dsimp only
  refine ⟨Nat.zero_le _, ?_, fun j a _ ha => .inl ha, fun a ha hna => ?_, Nat.le_refl _, by rw [hg0]; exact (Ch.refl _).app, by rw [List.take_zero]; show t.nx ≤ t.nx ∧ t.nx ≤ t.nx + _; omega⟩
  ·rw [exI_zero]
   refine T.setTm M (Nat.le_refl _) (by rw [hg0, ← hMx]; exact Q17) (fun a o hne => by rw [hg0]; (simp (disch := (first | omega | assumption)) only [↓appC, ↓updN, ↓updS, ↓app0]))
  ·have hne : a ≠ id := fun e => hna (.inl e)
   rw [hg0]; (simp (disch := (first | omega | assumption)) only [↓appC, ↓updN, ↓updS, ↓app0])
 ·(repeat first | exact LE.nil _ | refine LE.unk _ _ ?_ | refine LE.eq _ _ _ rfl ?_)
 ·exact LessH.refl _
 ·exact Nat.le_refl _
 intro ⟨i, m, W, g⟩ hI ih
 dsimp only at hI ⊢
 have hle := hI.le
 have q1 := hI.T.kid
 have q2 : g lb = some ⟨rwW (exM M t.nx t.lk i) W, 5, 29⟩ := by
  rcases hI.T.kl with ⟨e, _⟩ | ⟨b, e, k⟩
  ·cases e
  ·injection e with e1 e2 e3; rw [e1]; exact k
 dsimp only [exI] at q1
 have hrow : i < t.lk.length → (rwW (exM M t.nx t.lk i) W)[0 + i]? = some ((t.lk.getD i Lk0).V (W i)) := fun h => by
  rw [Nat.zero_add, F4 (by rw [F1]; exact h), AL h, if_neg (Nat.lt_irrefl _)]
 have hkw : i < t.lk.length → IsL g (W i) ((t.lk.getD i Lk0).ws.map wtV) 2 123 := fun h => by
  have := hI.T.kw i (by show i < (exM M t.nx t.lk i).length; rw [F1]; exact h)
  rwa [show (exI t M i).lk.getD i Lk0 = t.lk.getD i Lk0 from by show (exM M t.nx t.lk i).getD i Lk0 = _; rw [AL h, if_neg (Nat.lt_irrefl _)]] at this
 refine E8 (A2 (A0 ?_))
 refine I6 j6 ?_ ?_ <;> intro h2_0
 ·refine A3 (A1 (A2 (wT rfl (B0 (A1 (A2 (B3 (A2 (A0 (B6 j5 (D0 j5 (A3 ?_))))))))))))
  refine A1 (A2 (A0 (D9 j5 (F6 (v := .ptr _ _ _) j6 (C1 (off := 2) (s := 1) (r := false) j3 kz j3 ?_)))))
  (apply C5 (v := .view _ _ _) j2; exact Q17; exact Q39; exact j5)
  refine B6 j5 ?_
  (apply T8 j4; exact Q17; rfl; exact Q4; exact Q4; exact j3)
  refine raP j5 (A3 (A1 (A2 (C2 [0, 1, 3, 7, 15, 31, 63, 127, 255, 511, 63, 1087, 3135, 7231, 16383, 32767] rfl (by decide +kernel) ?_))))
  refine G6 j5 (G7 (v := .ptr _ _ _) j6 (D6 (off := 2) (s := 1) (r := false) j3 kz j3 ?_))
  (apply E1 (v := .int _ _) j2; exact Q17; exact Q39; exact j5)
  refine dne j6 ?_ ?_ <;> intro h5_4
  ·refine H8 j5 (G6 j5 (G7 (v := .ptr _ _ _) j6 (D6 (off := 3) (s := 1) (r := false) j3 kz j3 ?_)))
   (apply E1 (v := .int _ _) j2; exact Q17; exact Q39; exact j5)
   refine G6 j5 (G7 (v := .ptr _ _ _) j6 (D6 (off := 0) (s := 1) (r := false) j3 kz j3 ?_))
   (apply E1 (v := .int _ _) j2; exact Q17; exact Q39; exact j5)
   refine dle j6 ?_ ?_ <;> intro h5_14
   ·refine G5 (e := true) j6 (B1 16 [0, 0, 1, 0, 0, 0, 1, 0, 0, 0, 0, 0, 1, 0, 0, 0] [] j2 (by decide +kernel) trivial ?_)
    refine A1 (wT rfl (A0 (D9 j5 (D9 j5 ?_))))
    refine K7 (o96w (t.lk.getD i Lk0) (W i) M (nxL M t.nx (t.lk.take i)) (.view lb 0 t.lk.length) Ss hM (by have := hI.nxb; omega) (fun k hk => hwl i (by omega) k hk) (id := id) (lb := lb) (j := 0 + i) (R := rwW (exM M t.nx t.lk i) W) hI.T.idn (by have := hI.T.fl lb rfl; omega) (by have := hI.T.fl lb rfl; omega) q1 (by rw [B5, F1]; omega) q2 (hrow (by omega)) (hkw (by omega)) (fun a ha => by have := hI.T.fw i a (by show i < (exM M t.nx t.lk i).length; rw [F1]; omega) ha; exact ⟨this.1, fun e => this.2.2.1 (by rw [e]; rfl), this.2.1⟩)) rfl j5 ?_
    rintro w1 h6_2
    try dsimp only at h6_2
    refine A3 (B7 (A1 (A0 (C3 j3 ?_ ?_ j3 ?_))))
    ·exact Q4
    ·exact Q4
    refine B6 j5 (A3 (D1 ?_))
    first
    | (have hg : gone M (t.lk.getD i Lk0) := ⟨h5_4, h5_14⟩
       have hlb := hI.T.fl lb rfl
       refine H4 (ih (i + 1, m + 1, _, _) (hI.free (m2 := m + 1) (g2 := app [(lb, some ⟨(rwW (exM M t.nx t.lk i) W).set (0 + i) ((frL M (nxL M t.nx (t.lk.take i)) (t.lk.getD i Lk0)).V w1), 5, 29⟩), (id, some ⟨[[.int .i64 M, .int .i64 (frN (nxL M t.nx (t.lk.take i)) (t.lk.getD i Lk0)), .view lb 0 t.lk.length, Ss]], 4, 35⟩)] g) (by omega) hg (by omega) rfl w1 ?_ ?_ ?_ ?_ ?_ (Ch.refl _).app) (by dsimp only; omega)) (by (repeat first | exact LE.nil _ | refine LE.unk _ _ ?_ | refine LE.eq _ _ _ rfl ?_)) (LessH.refl _) (Nat.le_refl _)
       · exact Q17
       · rw [Nat.zero_add]; exact Q17
       · refine h6_2.2.mono fun a ha => ?_
         rw [h6_2.1] at ha
         have q := hI.T.fw i a (by show i < (exM M t.nx t.lk i).length; rw [F1]; omega) ha
         have q3 : a ≠ lb := fun e => q.2.2.1 (by rw [e]; rfl)
         have q4 := q.2.1
         (simp (disch := (first | omega | assumption)) only [↓appC, ↓updN, ↓updS, ↓app0])
       · intro a ha
         rw [h6_2.1] at ha
         have q := hI.T.fw i a (by show i < (exM M t.nx t.lk i).length; rw [F1]; omega) ha
         exact ⟨by omega, .inl ha⟩
       · intro a ha h1 h2
         (simp (disch := (first | omega | assumption)) only [↓appC, ↓updN, ↓updS, ↓app0]))
    | (have hg : ¬ gone M (t.lk.getD i Lk0) := (fun e => by first | exact absurd e.1 h5_4 | exact absurd e.2 h5_14)
       exact H4 (ih (i + 1, m, _, _) (hI.stay (by omega) hg (Nat.le_refl _) (fun _ _ => rfl) (Ch.refl _)) (by dsimp only; omega)) (by (repeat first | exact LE.nil _ | refine LE.unk _ _ ?_ | refine LE.eq _ _ _ rfl ?_)) (LessH.refl _) (Nat.le_refl _))
   ·refine G5 (e := false) j6 (B1 16 [0, 0, 1, 0, 0, 0, 1, 0, 0, 0, 0, 0, 1, 0, 0, 0] [] j2 (by decide +kernel) trivial ?_)
    refine A1 (wF rfl (B0 (B7 (A1 (A0 (C3 j3 ?_ ?_ j3 ?_))))))
    ·exact Q4
    ·exact Q4
    refine B6 j5 (A3 (D1 ?_))
    first
    | (have hg : gone M (t.lk.getD i Lk0) := ⟨h5_4, h5_14⟩
       have hlb := hI.T.fl lb rfl
       refine H4 (ih (i + 1, m + 1, _, _) (hI.free (m2 := m + 1) (g2 := app [(lb, some ⟨(rwW (exM M t.nx t.lk i) W).set (0 + i) ((frL M (nxL M t.nx (t.lk.take i)) (t.lk.getD i Lk0)).V w1), 5, 29⟩), (id, some ⟨[[.int .i64 M, .int .i64 (frN (nxL M t.nx (t.lk.take i)) (t.lk.getD i Lk0)), .view lb 0 t.lk.length, Ss]], 4, 35⟩)] g) (by omega) hg (by omega) rfl w1 ?_ ?_ ?_ ?_ ?_ (Ch.refl _).app) (by dsimp only; omega)) (by (repeat first | exact LE.nil _ | refine LE.unk _ _ ?_ | refine LE.eq _ _ _ rfl ?_)) (LessH.refl _) (Nat.le_refl _)
       · exact Q17
       · rw [Nat.zero_add]; exact Q17
       · refine h6_2.2.mono fun a ha => ?_
         rw [h6_2.1] at ha
         have q := hI.T.fw i a (by show i < (exM M t.nx t.lk i).length; rw [F1]; omega) ha
         have q3 : a ≠ lb := fun e => q.2.2.1 (by rw [e]; rfl)
         have q4 := q.2.1
         (simp (disch := (first | omega | assumption)) only [↓appC, ↓updN, ↓updS, ↓app0])
       · intro a ha
         rw [h6_2.1] at ha
         have q := hI.T.fw i a (by show i < (exM M t.nx t.lk i).length; rw [F1]; omega) ha
         exact ⟨by omega, .inl ha⟩
       · intro a ha h1 h2
         (simp (disch := (first | omega | assumption)) only [↓appC, ↓updN, ↓updS, ↓app0]))
    | (have hg : ¬ gone M (t.lk.getD i Lk0) := (fun e => by first | exact absurd e.1 h5_4 | exact absurd e.2 h5_14)
       exact H4 (ih (i + 1, m, _, _) (hI.stay (by omega) hg (Nat.le_refl _) (fun _ _ => rfl) (Ch.refl _)) (by dsimp only; omega)) (by (repeat first | exact LE.nil _ | refine LE.unk _ _ ?_ | refine LE.eq _ _ _ rfl ?_)) (LessH.refl _) (Nat.le_refl _))
  ·refine H8 j5 (A6 j3 (A6 j3 (A6 j3 (A6 j3 (A6 j3 (A6 j3 (A6 j3 (A6 j3 (A6 j3 (G5 (e := false) j6 (B1 16 [0, 0, 0, 0, 0, 0, 0, 0, 0, 0, 0, 0, 1, 0, 0, 0] [] j2 (by decide +kernel) trivial ?_)))))))))))
   refine A1 (wF rfl (B0 (B7 (A1 (A0 (C3 j3 ?_ ?_ j3 ?_))))))
   ·exact Q4
   ·exact Q4
   refine B6 j5 (A3 (D1 ?_))
   first
   | (have hg : gone M (t.lk.getD i Lk0) := ⟨h5_4, h5_14⟩
      have hlb := hI.T.fl lb rfl
      refine H4 (ih (i + 1, m + 1, _, _) (hI.free (m2 := m + 1) (g2 := app [(lb, some ⟨(rwW (exM M t.nx t.lk i) W).set (0 + i) ((frL M (nxL M t.nx (t.lk.take i)) (t.lk.getD i Lk0)).V w1), 5, 29⟩), (id, some ⟨[[.int .i64 M, .int .i64 (frN (nxL M t.nx (t.lk.take i)) (t.lk.getD i Lk0)), .view lb 0 t.lk.length, Ss]], 4, 35⟩)] g) (by omega) hg (by omega) rfl w1 ?_ ?_ ?_ ?_ ?_ (Ch.refl _).app) (by dsimp only; omega)) (by (repeat first | exact LE.nil _ | refine LE.unk _ _ ?_ | refine LE.eq _ _ _ rfl ?_)) (LessH.refl _) (Nat.le_refl _)
      · exact Q17
      · rw [Nat.zero_add]; exact Q17
      · refine h6_2.2.mono fun a ha => ?_
        rw [h6_2.1] at ha
        have q := hI.T.fw i a (by show i < (exM M t.nx t.lk i).length; rw [F1]; omega) ha
        have q3 : a ≠ lb := fun e => q.2.2.1 (by rw [e]; rfl)
        have q4 := q.2.1
        (simp (disch := (first | omega | assumption)) only [↓appC, ↓updN, ↓updS, ↓app0])
      · intro a ha
        rw [h6_2.1] at ha
        have q := hI.T.fw i a (by show i < (exM M t.nx t.lk i).length; rw [F1]; omega) ha
        exact ⟨by omega, .inl ha⟩
      · intro a ha h1 h2
        (simp (disch := (first | omega | assumption)) only [↓appC, ↓updN, ↓updS, ↓app0]))
   | (have hg : ¬ gone M (t.lk.getD i Lk0) := (fun e => by first | exact absurd e.1 h5_4 | exact absurd e.2 h5_14)
      exact H4 (ih (i + 1, m, _, _) (hI.stay (by omega) hg (Nat.le_refl _) (fun _ _ => rfl) (Ch.refl _)) (by dsimp only; omega)) (by (repeat first | exact LE.nil _ | refine LE.unk _ _ ?_ | refine LE.eq _ _ _ rfl ?_)) (LessH.refl _) (Nat.le_refl _))
 ·refine A3 (A1 (A2 (wF rfl (E5 (E6 (D7 (C8 ?_)))))))
  obtain rfl : i = t.lk.length := by omega
  refine E0 rfl hI.ch ⟨rfl, W, ?_, hI.fp, hI.fr, hI.nn⟩
  have := hI.T
  rwa [← hMx, exI_full] at this
theorem o60m (t : Tb) (now : Int) (hM : 0 ≤ max t.tm now ∧ max t.tm now ≤ 1000000000) (hn : 0 ≤ t.nx ∧ t.nx ≤ 999900) (hL : t.lk.length ≤ 100) (hwl : ∀ j, j < t.lk.length → ∀ i, i < (t.lk.getD j Lk0).ws.length → 1 ≤ ((t.lk.getD j Lk0).ws.getD i (0, 0)).2 ∧ ((t.lk.getD j Lk0).ws.getD i (0, 0)).2 ≤ 1000)
  {id : Nat} {Sl Ss : V} {W0 : Nat → V} {h : Heap} {n : Nat} (T : TabM t id Sl Ss W0 h n) : OpenM En 60 [.ptr id 0 0, .int .i64 now] h n (fun v g m => v = .tup [] ∧ ∃ W, TabM (exT t now) id Sl Ss W g m ∧ (∀ j a, j < t.lk.length → fpV (W j) = some a → fpV (W0 j) = some a ∨ n ≤ a) ∧ (∀ a, a < n → ¬ OwnT id Sl Ss W0 t.lk.length a → g a = h a) ∧ n ≤ m) := by
 rcases T.kl with ⟨rfl, k⟩ | ⟨lb, rfl, k⟩
 ·have hl : t.lk.length = 0 := by have := congrArg List.length k; rw [B5] at this; exact this
  have e : t.lk = [] := List.eq_nil_of_length_eq_zero hl
  have ex : exT t now = ⟨max t.tm now, t.nx, t.lk, t.sn⟩ := by unfold exT; rw [e]; rfl
  refine V.Open.toM (o60n t.tm t.nx now Ss T.idn T.kid) ⟨rfl, W0, ?_, fun j a _ ha => .inl ha, fun a ha hna => ?_, Nat.le_refl _⟩
  ·rw [ex]
   exact T.setTm _ (Nat.le_refl _) (by simp only [appC, app0]; exact updS rfl) (fun a o hne => by simp only [appC, app0]; exact updN hne)
  ·have hne : a ≠ id := fun e => hna (.inl e)
   simp only [appC, app0]; exact updN hne
 ·have e : (rwW t.lk W0).length = t.lk.length := B5 _ _
  rw [e] at T ⊢
  exact o60v t now rfl hM hn hL hwl T
open Go.V
set_option linter.unusedVariables false
set_option linter.unusedSimpArgs false
set_option maxRecDepth 20000
set_option maxHeartbeats 4000000
def idV (n : Nat) (v : V) : Nat := (fpV v).getD n
theorem app2 {n : Nat} {b : Option Blk} {h : Heap} {k : Nat} {c : Blk} : app [(n, none), (n, b)] h k = some c → app [(n, b)] h k = some c := by
 simp only [app]
 intro e
 by_cases h1 : k = n
 ·subst h1; rw [upd_same] at e ⊢; exact e
 ·rw [B8 _ _ h1, B8 _ _ h1] at e; rw [B8 _ _ h1]; exact e
theorem o112n (L : List Sn) (s : Sn) {v1 : Nat} {h : Heap} {n : Nat} (hv : v1 < n) (k1 : h v1 = some ⟨[s.V], 6, 115⟩) : V.Open En 112 [.nsl, .int .i64 0, .view v1 0 1] h n (.view n 0 1) [(n, some ⟨[s.V], 6, 115⟩)] (n + 1) := by
 unfold Sn.V at k1
 refine V.Open.of_wp Try.func112 rfl kb ?_
 refine A2 (A0 (AA j5 (A3 (A1 (A2 (A0 (rmN j5 (B6 j5 (rsln j8 (A3 (A1 (A2 ?_))))))))))))
 refine A0 (K1 j5 (H0 rfl rfl rfl j3 (D0 j5 (A3 (A1 (A2 (A2 (A0 (B6 j5 ?_)))))))))
 refine H5 j6 (fun h => absurd h (by decide)) ?_
 intro h3_1
 refine A3 (A1 (wF rfl (B0 (A1 (A2 (A0 (rmN j5 (H0 rfl rfl rfl j3 (D0 j5 (A3 (A1 (A2 ?_))))))))))))
 refine A2 (A0 (B6 j5 (B6 j5 ?_)))
 refine H5 j6 ?_ (fun h => absurd (by decide) h)
 intro h6_2
 refine A3 (A1 (wT rfl (A2 (A0 (rmN j5 (K1 j5 ?_))))))
 (apply ran (s' := 48)  rfl j3 kz; exact BM; exact AC; exact Q38; exact Q38; exact Q38; exact j3)
 refine S6 j5 (A3 (A1 (A9 (B2 ?_))))
 exact E7 rfl rfl (K8 (by
  intro j hj
  simp only [List.map_cons, List.map_nil, List.mem_cons, List.not_mem_nil, or_false] at hj
  rcases hj with rfl <;> (simp (disch := omega) only [↓app0, ↓appC, ↓updS, ↓updN]) <;> first | rfl | (fail)) (fun j hj hn => by
  simp only [List.map_cons, List.map_nil, List.mem_cons, List.not_mem_nil, or_false, not_or] at hn
  simp (disch := omega) only [↓app0, ↓appC, ↓updS, ↓updN])) (Nat.le_refl _)
theorem o112e (L : List Sn) (s : Sn) (hL : L.length ≤ 900) {sb v1 : Nat} {h : Heap} {n : Nat} (hs : sb < n) (hv : v1 < n) (hne : sb ≠ v1) (k0 : h sb = some ⟨(L.map Sn.V), 6, 115⟩) (k1 : h v1 = some ⟨[s.V], 6, 115⟩) : V.Open En 112 [.view sb 0 L.length, .int .i64 L.length, .view v1 0 1] h n (.view n 0 (L.length + 1)) [(sb, none), (n, some ⟨((L ++ [s]).map Sn.V), 6, 115⟩)] (n + 1) := by
 unfold Sn.V at k1
 refine V.Open.of_wp Try.func112 rfl kb ?_
 refine A2 (A0 (AA j5 (A3 (A1 (A2 (A0 (K1 j5 (B6 j5 ?_))))))))
 (apply rslv j3; exact Q0; exact j3; exact Q4; exact Q4; exact Q4; exact j3)
 refine A3 (A1 (A2 (A0 (K1 j5 (H0 rfl rfl rfl j3 (D0 j5 (A3 (A1 (A2 (A2 (A0 (B6 j5 ?_))))))))))))
 refine H5 j6 (fun h => absurd h (by decide)) ?_
 intro h3_1
 refine A3 (A1 (wF rfl (B0 (A1 (A2 (A0 (K1 j5 (H0 rfl rfl rfl j3 (D0 j5 (A3 (A1 (A2 ?_))))))))))))
 refine A2 (A0 (B6 j5 (B6 j5 ?_)))
 refine H5 j6 ?_ (fun h => absurd (rfl) h)
 intro h6_2
 refine A3 (A1 (wT rfl (A2 (A0 (K1 j5 (K1 j5 ?_))))))
 (apply rap (s' := 48)  rfl rfl; exact Q0; exact j2; (first | rfl | omega | (show _ = (List.map Sn.V L).length; rw [List.length_map]; omega) | (show _ = R.length; omega)); exact j2; exact kz; exact BM; exact AC; (first | omega | (focus (simp only [List.length_cons, List.length_nil]; omega)) | ((show (_ + 1) * _ ≤ _); omega) | ((show _ + 1 ≤ _); omega)); (first | omega | (focus (simp only [List.length_cons, List.length_nil]; omega)) | ((show (_ + 1) * _ ≤ _); omega) | ((show _ + 1 ≤ _); omega)); exact j3)
 refine S6 j5 (A3 (A1 (A9 (B2 ?_))))
 exact E7 rfl rfl (K8 (by
  intro j hj
  simp only [List.map_cons, List.map_nil, List.mem_cons, List.not_mem_nil, or_false] at hj
  rcases hj with rfl | rfl <;> (simp (disch := omega) only [↓app0, ↓appC, ↓updS, ↓updN]) <;> first | rfl | (exact congrArg (fun z => some (Blk.mk z 6 115)) (by simp only [List.map_append]; rfl))) (fun j hj hn => by
  simp only [List.map_cons, List.map_nil, List.mem_cons, List.not_mem_nil, or_false, not_or] at hn
  simp (disch := omega) only [↓app0, ↓appC, ↓updS, ↓updN])) (Nat.le_refl _)
theorem o146n (nm : ByteArray) (tk hd ex : Int) (W : V) (hW : W.cell = true) {v1 : Nat} {h : Heap} {n : Nat} (hv : v1 < n) (k1 : h v1 = some ⟨[[.str nm, .int .i64 tk, .int .i64 hd, .int .i64 ex, W]], 5, 29⟩) : V.Open En 146 [.nsl, .int .i64 0, .view v1 0 1] h n (.view n 0 1) [(n, some ⟨[[.str nm, .int .i64 tk, .int .i64 hd, .int .i64 ex, W]], 5, 29⟩)] (n + 1) := by
 refine V.Open.of_wp Try.func146 rfl kb ?_
 refine A2 (A0 (AA j5 (A3 (A1 (A2 (A0 (rmN j5 (B6 j5 (rsln j8 (A3 (A1 (A2 ?_))))))))))))
 refine A0 (K1 j5 (H0 rfl rfl rfl j3 (D0 j5 (A3 (A1 (A2 (A2 (A0 (B6 j5 ?_)))))))))
 refine H5 j6 (fun h => absurd h (by decide)) ?_
 intro h3_1
 refine A3 (A1 (wF rfl (B0 (A1 (A2 (A0 (rmN j5 (H0 rfl rfl rfl j3 (D0 j5 (A3 (A1 (A2 ?_))))))))))))
 refine A2 (A0 (B6 j5 (B6 j5 ?_)))
 refine H5 j6 ?_ (fun h => absurd (by decide) h)
 intro h6_2
 refine A3 (A1 (wT rfl (A2 (A0 (rmN j5 (K1 j5 ?_))))))
 (apply ran (s' := 64)  rfl j3 kz; exact BM; exact AC; exact Q38; exact Q38; exact Q38; exact j3)
 refine S6 j5 (A3 (A1 (A9 (B2 ?_))))
 exact E7 rfl rfl (K8 (by
  intro j hj
  simp only [List.map_cons, List.map_nil, List.mem_cons, List.not_mem_nil, or_false] at hj
  rcases hj with rfl <;> (simp (disch := omega) only [↓app0, ↓appC, ↓updS, ↓updN]) <;> first | rfl | (fail)) (fun j hj hn => by
  simp only [List.map_cons, List.map_nil, List.mem_cons, List.not_mem_nil, or_false, not_or] at hn
  simp (disch := omega) only [↓app0, ↓appC, ↓updS, ↓updN])) (Nat.le_refl _)
theorem o146e (R : List (List V)) (nm : ByteArray) (tk hd ex : Int) (W : V) (hW : W.cell = true) (hL : R.length ≤ 900) {sb v1 : Nat} {h : Heap} {n : Nat} (hs : sb < n) (hv : v1 < n) (hne : sb ≠ v1) (k0 : h sb = some ⟨R, 5, 29⟩) (k1 : h v1 = some ⟨[[.str nm, .int .i64 tk, .int .i64 hd, .int .i64 ex, W]], 5, 29⟩) : V.Open En 146 [.view sb 0 R.length, .int .i64 R.length, .view v1 0 1] h n (.view n 0 (R.length + 1)) [(sb, none), (n, some ⟨(R ++ [[.str nm, .int .i64 tk, .int .i64 hd, .int .i64 ex, W]]), 5, 29⟩)] (n + 1) := by
 refine V.Open.of_wp Try.func146 rfl kb ?_
 refine A2 (A0 (AA j5 (A3 (A1 (A2 (A0 (K1 j5 (B6 j5 ?_))))))))
 (apply rslv j3; exact Q0; exact j3; exact Q4; exact Q4; exact Q4; exact j3)
 refine A3 (A1 (A2 (A0 (K1 j5 (H0 rfl rfl rfl j3 (D0 j5 (A3 (A1 (A2 (A2 (A0 (B6 j5 ?_))))))))))))
 refine H5 j6 (fun h => absurd h (by decide)) ?_
 intro h3_1
 refine A3 (A1 (wF rfl (B0 (A1 (A2 (A0 (K1 j5 (H0 rfl rfl rfl j3 (D0 j5 (A3 (A1 (A2 ?_))))))))))))
 refine A2 (A0 (B6 j5 (B6 j5 ?_)))
 refine H5 j6 ?_ (fun h => absurd (rfl) h)
 intro h6_2
 refine A3 (A1 (wT rfl (A2 (A0 (K1 j5 (K1 j5 ?_))))))
 (apply rap (s' := 64)  rfl rfl; exact Q0; exact j2; (first | rfl | omega | (show _ = (List.map Sn.V L).length; rw [List.length_map]; omega) | (show _ = R.length; omega)); exact j2; exact kz; exact BM; exact AC; (first | omega | (focus (simp only [List.length_cons, List.length_nil]; omega)) | ((show (_ + 1) * _ ≤ _); omega) | ((show _ + 1 ≤ _); omega)); (first | omega | (focus (simp only [List.length_cons, List.length_nil]; omega)) | ((show (_ + 1) * _ ≤ _); omega) | ((show _ + 1 ≤ _); omega)); exact j3)
 refine S6 j5 (A3 (A1 (A9 (B2 ?_))))
 exact E7 rfl rfl (K8 (by
  intro j hj
  simp only [List.map_cons, List.map_nil, List.mem_cons, List.not_mem_nil, or_false] at hj
  rcases hj with rfl | rfl <;> (simp (disch := omega) only [↓app0, ↓appC, ↓updS, ↓updN]) <;> first | rfl | (fail)) (fun j hj hn => by
  simp only [List.map_cons, List.map_nil, List.mem_cons, List.not_mem_nil, or_false, not_or] at hn
  simp (disch := omega) only [↓app0, ↓appC, ↓updS, ↓updN])) (Nat.le_refl _)
theorem o112z (L : List Sn) (s : Sn) (i : Nat) (hi : i ≤ L.length) (hL : L.length ≤ 900) {Ss : V} {vb : Nat} {h : Heap} {n : Nat} (k0 : IsZ h Ss (L.map Sn.V) 6 115) (hs : ∀ a, fpV Ss = some a → a < n ∧ a ≠ vb) (hv : vb < n) (k1 : h vb = some ⟨[s.V], 6, 115⟩) :
  V.Open En 112 [Ss, .int .i64 i, .view vb 0 1] h n (.view n 0 (L.length + 1)) [(idV n Ss, none), (n, some ⟨(insL L i s).map Sn.V, 6, 115⟩)] (n + 1) := by
 rcases k0 with ⟨rfl, k⟩ | ⟨sb, rfl, k⟩
 ·have : L = [] := List.map_eq_nil_iff.1 k
  subst this
  obtain rfl : i = 0 := by simpa using hi
  exact V.Open.lessW (o112n [] s hv k1) (fun k b hb => app2 hb)
 ·have q := hs sb rfl
  rw [List.length_map]
  show V.Open En 112 [.view sb 0 L.length, .int .i64 i, .view vb 0 1] h n (.view n 0 (L.length + 1)) [(sb, none), (n, some ⟨(insL L i s).map Sn.V, 6, 115⟩)] (n + 1)
  by_cases e : i < L.length
  ·exact o112m L s i e (by omega) q.1 hv (Ne.symm q.2) k k1
  ·obtain rfl : i = L.length := by omega
   have := o112e L s hL q.1 hv q.2 k k1
   rwa [show insL L L.length s = L ++ [s] by simp [insL]]
theorem o146z (R : List (List V)) (nm : ByteArray) (tk hd ex : Int) (W : V) (hW : W.cell = true) (i : Nat) (hi : i ≤ R.length) (hR : ∀ e ∈ R, e.length = 5) (hL : R.length ≤ 900) {Sl : V} {vb : Nat} {h : Heap} {n : Nat} (k0 : IsZ h Sl R 5 29) (hs : ∀ a, fpV Sl = some a → a < n ∧ a ≠ vb) (hv : vb < n) (k1 : h vb = some ⟨[[.str nm, .int .i64 tk, .int .i64 hd, .int .i64 ex, W]], 5, 29⟩) :
  V.Open En 146 [Sl, .int .i64 i, .view vb 0 1] h n (.view n 0 (R.length + 1)) [(idV n Sl, none), (n, some ⟨R.take i ++ [.str nm, .int .i64 tk, .int .i64 hd, .int .i64 ex, W] :: R.drop i, 5, 29⟩)] (n + 1) := by
 rcases k0 with ⟨rfl, rfl⟩ | ⟨sb, rfl, k⟩
 ·obtain rfl : i = 0 := by simpa using hi
  exact V.Open.lessW (o146n nm tk hd ex W hW hv k1) (fun k b hb => app2 hb)
 ·have q := hs sb rfl
  show V.Open En 146 [.view sb 0 R.length, .int .i64 i, .view vb 0 1] h n (.view n 0 (R.length + 1)) [(sb, none), (n, some ⟨_, 5, 29⟩)] (n + 1)
  by_cases e : i < R.length
  ·exact o146m R _ i e (by omega) q.1 hv (Ne.symm q.2) k k1
  ·obtain rfl : i = R.length := by omega
   have := o146e R nm tk hd ex W hW hL q.1 hv q.2 k k1
   rwa [List.take_of_length_le (Nat.le_refl _), List.drop_of_length_le (Nat.le_refl _)]
end Go.Proofs.Ytknnniaoboaghaa
namespace Go.V
open Go
open Go.RowKit (Below)
set_option linter.unusedVariables false
set_option linter.unusedSimpArgs false
section ops
variable {E : Env} {o : Oper} {t : Nat → V} {h : Heap} {n : Nat}
theorem run_bounds3 {P : Program} {w : World} {len cap : Nat} {k1 k2 k3 : IntKind} {l r m : Int} (h0 : 0 ≤ l) (h1 : l ≤ r) (h2 : r ≤ m) (h3 : m ≤ cap) : (Instr.sliceBounds true len cap (some (.int k1 l)) (some (.int k2 r)) (some (.int k3 m))).run P w = .ok (l.toNat, r.toNat, m.toNat) w := by
  have one : ∀ (k : IntKind) (i : Int) (y : Nat) (code : BoundsCode) (w : World), 0 ≤ i → i ≤ y → (Instr.sliceBound (.int k i) y code).run P w = .ok i.toNat w := fun k i y code w a b => by
    simp [Instr.sliceBound, asIntOf, a, b]
  unfold Instr.sliceBounds
  simp [one k3 m cap _ w (by omega) h3, one k2 r m.toNat _ w (by omega) (by omega), one k1 l r.toNat _ w h0 (by omega)]
theorem op_slice3 {ty e : TypeId} {x lo hi mx : Operand} {k1 k2 k3 : IntKind} {id off len cp sz : Nat} {l r m : Int} (ho : o.op = .slice ty x (some lo) (some hi) (some mx)) (hx : E.eval t x = .vcap id off len cp)
    (hs : sliceP E.P ty = some (e, sz)) (hl : E.eval t lo = .int k1 l) (hr : E.eval t hi = .int k2 r) (hm : E.eval t mx = .int k3 m) (h0 : 0 ≤ l) (h1 : l ≤ r) (h2 : r ≤ m) (h3 : m ≤ cp) :
    OpOK E o t h n [] false .unk [] n :=
  OpOK.value fun c a h2' hx' hg hrd => by
    have g1 := hx' x (by simp [ho, Op.operands])
    rw [hx] at g1
    have gl := (by have := hx' lo (by simp [ho, Op.operands]); rw [hl] at this; exact this.int_inv)
    have gr := (by have := hx' hi (by simp [ho, Op.operands]); rw [hr] at this; exact this.int_inv)
    have gm := (by have := hx' mx (by simp [ho, Op.operands]); rw [hm] at this; exact this.int_inv)
    obtain ⟨hu, i, hi', hiz⟩ := H9 hs
    generalize hw : a.eval x = w at g1
    cases g1 with
    | vcap _ _ _ _ p off' hp hof hlc hpm =>
      have hrun := run_bounds3 (P := E.P) (w := c.w) (len := len) (cap := cp) (k1 := k1) (k2 := k2) (k3 := k3) h0 h1 h2 h3
      refine ⟨.slice (if m.toNat = l.toNat then some ⟨p.b, off', none⟩ else (some (⟨p.b, off', none⟩ : Addr)).map (·.add (l.toNat * i.size))) (r.toNat - l.toNat) (m.toNat - l.toNat), ?_, .unk _⟩
      · simp [execOp, ho, hw, gl, gr, gm, Instr.sliceAt, Instr.slice, run_underlying hu, hrun, sizeOf, typeInfo, hi']
theorem V5 {ty e : TypeId} {x : Operand} {lo hi : Option Operand} {sz : Nat} (ho : o.op = .slice ty x lo hi none) (hx : E.eval t x = .nsl)
    (hs : sliceP E.P ty = some (e, sz)) (hl : bndV E t lo 0 = some 0) (hr : bndV E t hi 0 = some 0) : OpOK E o t h n [] false .nsl [] n :=
  OpOK.value fun c a h2' hx' hg hrd => by
    have g1 := hx' x (by simp [ho, Op.operands])
    rw [hx] at g1
    have gl := N2 hl (fun y hy => hx' y (by simp [ho, Op.operands, hy]))
    have gr := N2 hr (fun y hy => hx' y (by simp [ho, Op.operands, hy]))
    obtain ⟨hu, i, hi', hiz⟩ := H9 hs
    have hv := g1.nsl_inv
    have hrun := V6 (P := E.P) (w := c.w) (len := 0) (cap := 0) (lo := lo.map a.eval) (hi := hi.map a.eval) (l := 0) (r := 0)
      (by rcases gl with ⟨rfl, h⟩ | ⟨y, k, rfl, h⟩
          · exact .inl ⟨rfl, rfl⟩
          · exact .inr ⟨k, by simp [h]⟩)
      (by rcases gr with ⟨rfl, h⟩ | ⟨y, k, rfl, h⟩
          · exact .inl ⟨rfl, rfl⟩
          · exact .inr ⟨k, by simp [h]⟩) (Int.le_refl _) (Int.le_refl _) (Int.le_refl _) (Nat.le_refl _)
    refine ⟨.slice none 0 0, ?_, .nsl⟩
    simp [execOp, ho, hv, Instr.sliceAt, Instr.slice, run_underlying hu, hrun, sizeOf, typeInfo, hi']
theorem op_clear {ty e : TypeId} {x : Operand} {sz by' id off len : Nat} {b : Blk} (ho : o.op = .call { callee := .builtin .clear, args := #[x], argTypes := #[ty] })
    (hx : dstV (E.eval t x) = some (id, off, len)) (hb : h id = some b) (hbz : b.sz = sz) (hbt : b.ty = e) (hle : off + len ≤ b.es.length) (hs : elemP E.P ty = some (e, sz, by')) (hone : zeroOne E.P e = true) (h0 : sz ≠ 0) :
    OpOK E o t h n [id] false (.tup []) [(id, some ⟨putR b.es off (List.replicate len (List.replicate sz .unk)), sz, e⟩)] n := by
  intro c a h2 K Q hd hx' hg hrd _ hf hK
  have g1 := hx' x (by simp [ho, Op.operands, Call.operands])
  obtain ⟨p, o', cap, hw, hp, hof, hlc, hpm⟩ := X4 g1 hx
  obtain ⟨i, z, hu, hi, hz, rfl, rfl, hzz⟩ := J3 hs
  have hzo : z.cells.all (fun v => v.oneCell') = true := by
    unfold zeroOne at hone
    rw [hi] at hone
    simp only [hz] at hone
    exact hone
  have hb2 : h2 id = some b := by rw [hrd id (by simp)]; exact hb
  obtain ⟨cells, fz, q2, q3, q4, q5, q6, q7, q8⟩ := hg.cells hb2 hp hpm
  let news : List Value := (Builtin.zeroCells z.cells len).toList
  have hnl : news.length = len * i.size := by simp only [news, Array.length_toList, size_zeroCells, hzz]
  have h1n : ∀ u ∈ news, u.oneCell' = true := V1 hzo (by rw [hzz]; exact h0)
  by_cases hlen : len = 0
  · subst hlen
    have hex : (execOp a.eval o).run E.P c.w = .ok (.value (.tuple #[])) c.w := by
      simp [execOp, ho, hw, resolve, invoke, builtin, Builtin.clear_, run_underlying hu]
    unfold Oper.wp
    rw [hex, Oper.upon_value]
    refine hK c _ (Ext.refl c) ?_ (fun id h => .inl h) (.tup [] #[] rfl (by simp))
    have e1 : app [(id, some ⟨putR b.es off (List.replicate 0 (List.replicate i.size .unk)), i.size, e⟩)] h2 = h2 := by
      have e2 : putR b.es off (List.replicate 0 (List.replicate i.size V.unk)) = b.es := by simp [putR]
      rw [e2, ← hbz, ← hbt]
      funext k
      simp only [app]
      by_cases hk : k = id
      · subst hk; rw [upd_same, hb2]
      · rw [B8 _ _ hk]
    rw [e1]; exact hg
  · have hcap : ¬ cap = 0 := by omega
    obtain ⟨e1, e2⟩ := hof.resolve_left hcap
    have e1' := e1
    rw [q2, hbz] at e1 e2
    have hle2 : len * i.size ≤ cap * i.size := Nat.mul_le_mul_right _ hlc
    have hcell : ∀ k, k < news.length → (c.w.cell? ⟨p.b, o' + 0 + k, none⟩).isSome = true := fun k hk => by
      rw [hnl] at hk
      have : o' + k < cells.size := by omega
      simp [World.cell?, q3, this]
    have hfrz : ∀ k, k < news.length → c.w.frozen? ⟨p.b, o' + 0 + k, none⟩ = false := fun k hk => by
      rw [hnl] at hk
      have : ¬ (fz.1 ≤ o' + k ∧ o' + k < fz.2) := by omega
      cases hz : (decide (fz.1 ≤ o' + k) && decide (o' + k < fz.2)) with
      | false => obtain ⟨z1, z2⟩ := fz; simpa [World.frozen?, q3] using hz
      | true =>
        simp only [Bool.and_eq_true, decide_eq_true_eq] at hz
        exact absurd hz this
    have hst := run_storeCells_cells (P := E.P) p.b o' news 0 c.w hcell hfrz h1n
    simp only [Nat.add_zero] at hst
    have hex : (execOp a.eval o).run E.P c.w = .ok (.value (.tuple #[])) (c.put p (p.o + off * b.sz) news).w := by
      have hz' : ∀ w, (zeroValue e).run E.P w = .ok z w := fun w => by simp [zeroValue, typeInfo, hi, hz]
      obtain ⟨m, rfl⟩ : ∃ m, len = m + 1 := ⟨len - 1, by omega⟩
      simp only [news] at hst
      have e3 : o' = p.o + off * b.sz := by rw [hbz]; exact e1
      rw [e3] at hst hw
      simp [execOp, ho, hw, resolve, invoke, builtin, Builtin.clear_, run_underlying hu, hz', hst, Cx.put, news]
    obtain ⟨hx2, hg2⟩ := hg.put (ys := List.replicate len (List.replicate i.size V.unk)) (news := news) hb2 hp hpm (d := off) (by omega) (fun e he => by rw [List.eq_of_mem_replicate he]; simp [hbz]) (by rw [hnl, hbz]; simp)
      (fun i' j y hy => by
        obtain ⟨e1, e2, rfl⟩ := get2_unk hy
        have : (i' + 1) * i.size ≤ len * i.size := Nat.mul_le_mul_right _ e1
        rw [Nat.succ_mul] at this
        have hlt2 : i' * b.sz + j < news.length := by rw [hbz]; omega
        exact ⟨_, List.getElem?_eq_getElem hlt2, .unk _⟩) h1n (.inl (by
        rw [hbz]
        simp only [List.length_replicate]
        rw [Nat.add_mul]; omega))
    unfold Oper.wp
    rw [hex, Oper.upon_value]
    refine hK _ _ hx2 ?_ (fun id' hid' => .inl hid') (.tup [] #[] rfl (by simp))
    have e9 : app [(id, some ⟨putR b.es off (List.replicate len (List.replicate i.size .unk)), i.size, e⟩)] h2 = upd h2 id (some ⟨putR b.es off (List.replicate len (List.replicate i.size .unk)), b.sz, b.ty⟩) := by
      rw [hbz, hbt]; rfl
    rw [e9]; exact hg2
end ops
section
variable {E : Env} {sz : Nat} {t : Nat → V} {h : Heap} {n : Nat} {ops : Array Oper} {l : List Oper} {o : Oper} {bl : List Nat} {pre : List Ef} {R : (Nat → V) → Heap → Nat → Prop} {x y : Operand} {ty ty' : TypeId} {k : IntKind} {a b : Int}
theorem rsl3 {lo hi mx : Operand} {e : TypeId} {k1 k2 k3 : IntKind} {i j m cp s : Nat} {a b c : Int} (G0 : o.op = .slice ty x (some lo) (some hi) (some mx) ∧ E.eval t x = .vcap i j m cp ∧ sliceP E.P ty = some (e, s) ∧ E.eval t lo = .int k1 a ∧ E.eval t hi = .int k2 b ∧ E.eval t mx = .int k3 c) (h0 : 0 ≤ a) (h1 : a ≤ b) (h2 : b ≤ c) (h3 : c ≤ cp) {d : Nat} (G1 : o.dst = some d ∧ Nat.blt d sz = true ∧ guardV ops t o = some true) (w : WR E sz ops l (upd t d .unk) h n R) : WR E sz ops (o :: l) t h n R := have ⟨ho, hx, hs, hl, hr, hm⟩ := G0; have ⟨hdd, hd, hg⟩ := G1; r0 (op_slice3 ho hx hs hl hr hm h0 h1 h2 h3) hdd hd hg w
theorem dsnn {lo hi : Option Operand} {e : TypeId} {s : Nat} {d : Nat} (G0 : o.op = .slice ty x lo hi none ∧ E.eval t x = .nsl ∧ sliceP E.P ty = some (e, s) ∧ bndV E t lo 0 = some 0 ∧ bndV E t hi 0 = some 0 ∧ o.dst = some d ∧ Nat.blt d sz = true ∧ guardV ops t o = some true) (w : WD E sz ops bl (⟨false, .nsl, [], false, [], n, n⟩ :: pre) l (upd t d (.nsl)) h n R) : WD E sz ops bl pre (o :: l) t h n R := have ⟨ho, hx, hs, hl, hr, hdd, hd, hg⟩ := G0; d0 (V5 ho hx hs hl hr) hdd hd hg w
theorem rclr {s s' i j m : Nat} {B : Blk} {e : TypeId} (ho : o.op = .call { callee := .builtin .clear, args := #[x], argTypes := #[ty] }) (hx : dstV (E.eval t x) = some (i, j, m)) (hb : h i = some B) (G0 : B.sz = s ∧ B.ty = e) (hle : j + m ≤ B.es.length) (hs : elemP E.P ty = some (e, s, s')) (hone : zeroOne E.P e = true) (h0 : s ≠ 0) (G1 : o.dst = none ∧ guardV ops t o = some true) (w : WR E sz ops l t (app [(i, some ⟨putR B.es j (List.replicate m (List.replicate s .unk)), s, e⟩)] h) n R) : WR E sz ops (o :: l) t h n R := have ⟨hbz, hbt⟩ := G0; have ⟨hdd, hg⟩ := G1;
  rOp (op_clear ho hx hb hbz hbt hle hs hone h0) (by rw [hdd]; rfl) hg (Nat.le_refl _) (fun h => by simp at h) (by rw [hdd]; exact w)
end
end Go.V
