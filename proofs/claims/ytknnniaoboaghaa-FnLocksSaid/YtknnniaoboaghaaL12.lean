import Derived.Test.YtknnniaoboaghaaL11
namespace Go.Proofs.Ytknnniaoboaghaa
open Go.V
set_option linter.unusedVariables false
set_option linter.unusedSimpArgs false
set_option maxRecDepth 20000
set_option maxHeartbeats 4000000
def idZ (v : V) : Nat := (fpV v).getD 0
def slZ (v : V) (a b : Nat) : V := match v with | .view id off _ => .view id (off + a) (b - a) | _ => .nsl
section
variable {E : Env} {o : Oper} {t : Nat → V} {h : Heap} {n : Nat}
theorem OpOK.rdMore {v : V} {rd rd2 : List Nat} {wr : List (Nat × Option Blk)} {m : Nat} (H : OpOK E o t h n rd false v wr m) (hs : ∀ a ∈ rd, a ∈ rd2) : OpOK E o t h n rd2 false v wr m := by
 intro c a h2 K Q hd hx hg hrd ht hf hK
 exact H c a h2 K Q hd hx hg (fun id hid => hrd id (hs id hid)) ht hf hK
theorem L3 {ty e : TypeId} {x y : Operand} {k : IntKind} {m : Int} {v : V} {rows : List (List V)} {sz tyy : Nat} (G0 : o.op = .indexAddr ty x y ∧ E.eval t x = v ∧ E.eval t y = .int k m ∧ sliceP E.P ty = some (e, sz)) (hz : IsZ h v rows sz tyy) (h0 : 0 ≤ m) (h1 : m < rows.length) :
  OpOK E o t h n [idZ v] false (.ptr (idZ v) m.toNat 0) [] n := by
 obtain ⟨ho, hx, hy, hs⟩ := G0
 obtain ⟨id, rfl, hk⟩ := hz.some (by omega)
 have := C1 (n := n) ho hx hy hs hk rfl h0 h1
 rw [Nat.zero_add] at this; exact this
theorem T3 {ty e : TypeId} {x : Operand} {lo hi : Option Operand} {v : V} {rows : List (List V)} {sz tyy : Nat} {l r : Int} (G0 : o.op = .slice ty x lo hi none ∧ E.eval t x = v ∧ sliceP E.P ty = some (e, sz)) (hz : IsZ h v rows sz tyy) (hl : bndV E t lo 0 = some l) (hr : bndV E t hi rows.length = some r) (h0 : 0 ≤ l) (h1 : l ≤ r) (h2 : r ≤ rows.length) :
  OpOK E o t h n [idZ v] false (slZ v l.toNat r.toNat) [] n := by
 obtain ⟨ho, hx, hs⟩ := G0
 rcases hz with ⟨rfl, rfl⟩ | ⟨id, rfl, hk⟩
 ·simp only [List.length_nil] at hr h2
  obtain rfl : l = 0 := by omega
  obtain rfl : r = 0 := by omega
  exact OpOK.rdMore (W3 ho hx hs hl hr) (fun a ha => absurd ha List.not_mem_nil)
 ·exact O7 ho hx hs hk rfl hl hr h0 h1 h2
end
theorem srcZ {h : Heap} {v : V} {rows : List (List V)} {sz ty a b : Nat} (hz : IsZ h v rows sz ty) (hab : a ≤ b) (hb : b ≤ rows.length) : srcV h (slZ v a b) = some ((rows.drop a).take (b - a)) := by
 rcases hz with ⟨rfl, rfl⟩ | ⟨id, rfl, hk⟩
 ·simp [slZ, srcV]
 ·simp only [slZ, srcV, hk]
  rw [if_pos (by omega), Nat.zero_add]
theorem idsZ (v : V) (a b : Nat) : ∀ x ∈ srcIds (slZ v a b), x = idZ v := fun x hx => by
 unfold slZ at hx
 split at hx
 ·exact List.mem_singleton.1 hx
 ·exact absurd hx List.not_mem_nil
theorem kZ {h : Heap} {v : V} {rows : List (List V)} {sz ty : Nat} (hz : IsZ h v rows sz ty) (hn : 0 < rows.length) : h (idZ v) = some ⟨rows, sz, ty⟩ := by
 obtain ⟨id, rfl, hk⟩ := hz.some hn
 exact hk
theorem fpZ {h : Heap} {v : V} {rows : List (List V)} {sz ty : Nat} (hz : IsZ h v rows sz ty) (hn : 0 < rows.length) : fpV v = some (idZ v) := by
 obtain ⟨id, rfl, hk⟩ := hz.some hn
 rfl
open Go.V
set_option linter.unusedVariables false
set_option linter.unusedSimpArgs false
set_option maxRecDepth 20000
set_option maxHeartbeats 4000000
theorem BT {R : List (List V)} {i : Nat} {x y : List V} (hi : i ≤ R.length) (e : y = x) : List.drop 0 (List.drop 0 (List.drop 0 [] ++ List.take ((i : Int).toNat - Int.toNat 0) (List.drop (Int.toNat 0) R)) ++ [y]) ++ List.take ((R.length : Int).toNat - (i : Int).toNat) (List.drop (i : Int).toNat R) = R.take i ++ x :: R.drop i := by
 subst e
 have z0 : Int.toNat 0 = 0 := rfl
 simp only [List.drop_zero, List.nil_append, Int.toNat_natCast, z0, Nat.sub_zero]
 rw [List.take_of_length_le (l := R.drop i) (by simp)]
 simp
theorem insLen2 {R : List (List V)} {i len : Nat} {y : List V} (hl : R.length = len) (hi : i ≤ len) : 0 + (List.take ((i : Int).toNat - Int.toNat 0) (List.drop (Int.toNat 0) R)).length + [y].length + (List.take ((R.length : Int).toNat - (i : Int).toNat) (List.drop (i : Int).toNat R)).length = len + 1 := by
 have z0 : Int.toNat 0 = 0 := rfl
 simp only [List.length_take, List.length_drop, List.length_cons, List.length_nil, z0, Int.toNat_natCast]
 omega
theorem s68 (t : Tb) (b n1 n2 : Bool) (now : Int) (r : Rq) (bq : Bq t now r) (hw4 : ∀ i, i < t.lk.length → (t.lk.getD i Lk0).ws.length ≤ 100) (hhd1 : ∀ i, i < t.lk.length → -1 ≤ (t.lk.getD i Lk0).hd) (hhd2 : ∀ i, i < (exT t now).lk.length → -1 ≤ ((exT t now).lk.getD i Lk0).hd) (hkd : r.kd ≤ 4 ∧ 1 ≤ r.kd) : Pure En 68 [.agg (t.T b n1 n2), .one (.int .i64 now), .agg r.T] [.agg ((rqT t now r).1.T false false false), .agg (rqT t now r).2.T] := by
 have hs6 := bq.s6
 have hcl := bq.bd.cl
 refine Pure.of_wp Try.func68 rfl kb ?_
 refine A2 (A0 ?_)
 (refine K7 (u := .agg [.int .i64 t.tm, .int .i64 t.nx, .sl false n1 (t.lk.map (Lk.T b)), .sl false n2 (t.sn.map Sn.T)]) j3 rfl j3 ?_)
 refine K7 (u := .agg [.int _ _, .int _ _, .int _ _, .int _ _, .str _]) j3 rfl j3 (H3 j6 (H3 j6 (A3 (A1 (A2 (A0 ?_))))))
 (apply F7 (vs := [.int _ _, .int _ _, _, _]) j2; exact Q0; exact C8; rfl; exact kb; rfl; exact j3)
 refine B5 j5 ?_
 refine L4 (o58 t b n1 n2 false now rfl bq.hM bq.hn bq.hL (by have := bq.s6; omega) hw4 hhd1 bq.hwl) rfl j5 ?_
 rintro _ g1 m1 ⟨Sl1, Ss1, W1, rfl, TV, fr1, le1⟩ hc1 hl1
 have kcl1 := TV.kl.cell
 have kcs1 := TV.ks.cell
 refine H3 j6 ?_
 (apply D6 (u := .agg [.int _ _, .int _ _, _, _]) j3; exact Q0; exact C8; rfl; rfl; rfl; exact Q8; exact kb; rfl; exact j2)
 refine A3 (A1 (A2 ?_))
 refine Z2 fun g2 hg2 => ?_
 have T1 : TabM (exT t now) m1 Sl1 Ss1 W1 g2 (m1 + 1) := TV.toM ⟨by omega, .inl (Nat.le_refl _)⟩ (by omega) (by rw [hg2]; (simp (disch := (first | omega | assumption)) only [↓appC, ↓updN, ↓updS, ↓app0]); rfl) (fun a h1 h2 => by rw [hg2]; (simp (disch := (first | omega | assumption)) only [↓appC, ↓updN, ↓updS, ↓app0]))
 have q1 : g2 (0 + 1) = some ⟨[[.int .i64 r.cl, .int .i64 r.st, .int .i64 r.kd, .int .i64 r.le, .str r.nm]], 5, 64⟩ := by rw [hg2]; (simp (disch := (first | omega | assumption)) only [↓appC, ↓updN, ↓updS, ↓app0]); rw [fr1 (0 + 1) (by omega)]; (simp (disch := (first | omega | assumption)) only [↓appC, ↓updN, ↓updS, ↓app0]); rfl
 have q2 : g2 (0 + 1 + 1) = some ⟨[[.int .i64 0, .int .i64 0, .nsl, .nsl]], 4, 35⟩ := by rw [hg2]; (simp (disch := (first | omega | assumption)) only [↓appC, ↓updN, ↓updS, ↓app0]); rw [fr1 (0 + 1 + 1) (by omega)]; (simp (disch := (first | omega | assumption)) only [↓appC, ↓updN, ↓updS, ↓app0]); rfl
 have q3 : g2 (0 + 1 + 1 + 1) = some ⟨[[.int .i64 0, .int .i64 0, .int .i64 0, .int .i64 0]], 4, 60⟩ := by rw [hg2]; (simp (disch := (first | omega | assumption)) only [↓appC, ↓updN, ↓updS, ↓app0]); rw [fr1 (0 + 1 + 1 + 1) (by omega)]; (simp (disch := (first | omega | assumption)) only [↓appC, ↓updN, ↓updS, ↓app0]); rfl
 have kid1 : g2 m1 = some ⟨[[.int .i64 (exT t now).tm, .int .i64 (exT t now).nx, Sl1, Ss1]], 4, 35⟩ := T1.kid
 have ks1 : IsZ g2 Ss1 (t.sn.map Sn.V) 6 115 := T1.ks
 have hlen1 := lenZ ks1
 rw [List.length_map] at hlen1
 have kz1 := fun (h : 0 < t.sn.length) => kZ ks1 (by rw [List.length_map]; exact h)
 have hP1 : ∀ a, OwnT m1 Sl1 Ss1 W1 (exT t now).lk.length a → 0 + 1 + 1 + 1 + 1 ≤ a := fun a o => by have := TV.ownM a o; omega
 have fo1 : idZ Ss1 = 0 ∨ (0 + 1 + 1 + 1 + 1 ≤ idZ Ss1 ∧ idZ Ss1 < m1) := by
  unfold idZ
  cases hx : fpV Ss1 with
  | none => exact .inl rfl
  | some a => exact .inr (TV.fs a hx).1
 refine A0 (D1 j5 (A3 (A1 (A2 (B4 (F0 ?_))))))
 refine E4 (fun (i : Nat) => [.unk, .unk, .unk, .unk, .unk, .ptr (0 + 1) 0 0, .ptr (0 + 1 + 1) 0 0, .ptr (0 + 1 + 1 + 1) 0 0, .ptr m1 0 0, .int .i64 i]) (fun (i : Nat) => g2) (fun (i : Nat) => m1 + 1) (fun (i : Nat) => i ≤ t.sn.length ∧ ∀ j, j < i → scl t.sn j < r.cl) (fun (i : Nat) => t.sn.length - i) 0 ?_ ?_ ?_ ?_ ?_
 ·exact ⟨Nat.zero_le _, N1⟩
 ·(repeat first | exact LE.nil _ | refine LE.unk _ _ ?_ | refine LE.eq _ _ _ rfl ?_)
 ·exact LessH.refl _
 ·exact Nat.le_refl _
 intro i hI ih
 refine E8 (A2 (A2 (B9 [0, 0, 2, 6, 15, 31, 63, 127, 63, 511, 1023, 2047, 63, 4159, 16383, 32767] rfl (by decide +kernel) ?_)))
 refine I2 j5 (C9 (off := 3) (s := 1) (r := false) j3 kz j3 ?_)
 (apply D5 (v := Ss1) j2; exact Q0; rfl; exact j5)
 (refine dll rfl rfl hlen1 j3 ?_)
 refine dlt j6 ?_ ?_ <;> intro h3_4
 ·refine F9 j5 (C9 (off := 3) (s := 1) (r := false) j3 kz j3 ?_)
  (apply D5 (v := Ss1) j2; exact Q0; rfl; exact j5)
  refine I2 j5 ?_
  (refine d0 ((L3 (v := Ss1) j4 (ks1) (by omega) (by rw [List.length_map]; omega)).to (v' := .ptr (idZ Ss1) i 0) (by rw [Int.toNat_natCast])) rfl rfl rfl ?_)
  refine C9 (off := 0) (s := 1) (r := false) j3 kz j3 ?_
  (apply D5 (v := .int .i64 (t.sn.getD i Sn0).cl) j2; exact kz1 (by omega); exact S5 (by omega); exact j5)
  refine C9 (off := 0) (s := 1) (r := false) j3 kz j3 ?_
  (apply D5 (v := .int _ _) j2; exact Q0; exact C8; exact j5)
  refine dlt j6 ?_ ?_ <;> intro h3_14
  ·refine F4 (e := true) j6 (B3 16 [0, 0, 1, 0, 1, 0, 1, 0, 1, 0, 0, 0, 0, 1, 0, 0] [] j2 (by decide +kernel) trivial ?_)
   refine A1 (wT rfl (B2 (A1 (B4 (A0 (B5 j5 (D0 j3 ?_ ?_ j3 ?_)))))))
   ·exact Q4
   ·exact Q4
   refine D1 j5 (A3 (C0 (E3 ?_)))
   exact I4 (ih (i + 1) ⟨by omega, L5 hI.2 h3_14⟩ (by omega)) (by (repeat first | exact LE.nil _ | refine LE.unk _ _ ?_ | refine LE.eq _ _ _ rfl ?_)) (LessH.refl _) (Nat.le_refl _)
  ·refine F4 (e := false) j6 (B3 16 [0, 0, 1, 0, 1, 0, 1, 0, 1, 0, 0, 0, 0, 1, 0, 0] [] j2 (by decide +kernel) trivial ?_)
   refine A1 (wF rfl (E5 (E6 (D2 (C5 (A1 (A2 ?_)))))))
   have hp : snP r.cl t.sn = i := by
    first
    | exact Z8 hI.1 hI.2 (fun _ => h3_14)
    | exact Z8 hI.1 hI.2 (fun h => absurd h (by omega))
   refine B9 [0, 0, 2, 6, 15, 31, 63, 127, 63, 511, 1023, 2047, 63, 4159, 16383, 32767, 65535] rfl (by decide +kernel) ?_
   refine I2 j5 (C9 (off := 3) (s := 1) (r := false) j3 kz j3 ?_)
   (apply D5 (v := Ss1) j2; exact Q0; rfl; exact j5)
   (refine dll rfl rfl hlen1 j3 ?_)
   refine dlt j6 ?_ (fun h => absurd (by omega) h)
   intro h5_4
   refine F9 j5 (C9 (off := 3) (s := 1) (r := false) j3 kz j3 ?_)
   (apply D5 (v := Ss1) j2; exact Q0; rfl; exact j5)
   refine I2 j5 ?_
   (refine d0 ((L3 (v := Ss1) j4 (ks1) (by omega) (by rw [List.length_map]; omega)).to (v' := .ptr (idZ Ss1) i 0) (by rw [Int.toNat_natCast])) rfl rfl rfl ?_)
   refine C9 (off := 0) (s := 1) (r := false) j3 kz j3 ?_
   (apply D5 (v := .int .i64 (t.sn.getD i Sn0).cl) j2; exact kz1 (by omega); exact S5 (by omega); exact j5)
   refine C9 (off := 0) (s := 1) (r := false) j3 kz j3 ?_
   (apply D5 (v := .int _ _) j2; exact Q0; exact C8; exact j5)
   refine deq j6 ?_ ?_ <;> intro h5_14
   ·refine F4 (e := true) j6 (P3 j5 (B3 17 [0, 0, 0, 1, 0, 1, 0, 1, 0, 1, 0, 0, 0, 0, 1, 0, 0] [] j2 (by decide +kernel) trivial ?_))
    refine A1 (A2 (B4 (A2 ?_)))
    have hcase : (i < t.sn.length ∧ (t.sn.getD i Sn0).cl = r.cl ∧ snH r.cl t.sn) ∨ (¬ snH r.cl t.sn) := by
     by_cases hs : snH r.cl t.sn
     ·left; have h1 := hs.1; have h2 := hs.2; rw [hp] at h1 h2; exact ⟨h1, h2, hs⟩
     ·exact .inr hs
    have hsn : (i < t.sn.length ∧ (t.sn.getD i Sn0).cl = r.cl) → snH r.cl t.sn := fun h => by unfold snH; rw [hp]; exact h
    refine B9 [0, 1, 3, 7, 3, 31, 63, 127, 3, 259, 1023, 2047, 4095] rfl (by decide +kernel) ?_
    refine F9 j5 (F9 j5 (C9 (off := 3) (s := 1) (r := false) j3 kz j3 ?_))
    (apply D5 (v := Ss1) j2; exact Q0; rfl; exact j5)
    refine I2 j5 ?_
    (refine d0 ((L3 (v := Ss1) j4 (ks1) (by omega) (by rw [List.length_map]; omega)).to (v' := .ptr (idZ Ss1) i 0) (by rw [Int.toNat_natCast])) rfl rfl rfl ?_)
    refine C9 (off := 1) (s := 1) (r := false) j3 kz j3 ?_
    (apply D5 (v := .int .i64 (t.sn.getD i Sn0).st) j2; exact kz1 (by omega); exact S5 (by omega); exact j5)
    refine C9 (off := 1) (s := 1) (r := false) j3 kz j3 ?_
    (apply D5 (v := .int _ _) j2; exact Q0; exact C8; exact j5)
    refine deq j6 ?_ ?_ <;> intro h6_10
    ·refine F4 (e := true) j6 (P3 j5 (B3 13 [0, 0, 0, 1, 0, 1, 0, 1, 0, 1, 0, 0, 0] [] j2 (by decide +kernel) trivial ?_))
     refine A1 (wT rfl (A2 (B9 [0, 0, 2, 0, 14, 30, 62, 1, 255] rfl (by decide +kernel) ?_)))
     (apply L8 (vs := [.int .i64 (exT t now).tm, .int .i64 (exT t now).nx, Sl1, Ss1]) j2; exact Q0; rfl; rfl; exact kb; exact j4)
     refine C9 (off := 3) (s := 1) (r := false) j3 kz j3 ?_
     (apply D5 (v := Ss1) j2; exact Q0; rfl; exact j5)
     refine I2 j5 ?_
     (refine d0 ((L3 (v := Ss1) j4 (ks1) (by omega) (by rw [List.length_map]; omega)).to (v' := .ptr (idZ Ss1) i 0) (by rw [Int.toNat_natCast])) rfl rfl rfl ?_)
     refine C9 (off := 2) (s := 4) (r := true) j3 kz j3 ?_
     (apply L8 (vs := [.int .i64 (t.sn.getD i Sn0).an.kd, .int .i64 (t.sn.getD i Sn0).an.tk, .int .i64 (t.sn.getD i Sn0).an.hd, .int .i64 (t.sn.getD i Sn0).an.ex]) j2; exact kz1 (by omega); exact S5 (by omega); rfl; exact kb; exact j4)
     (apply dst (u := .agg [.int _ _, .int _ _, _, _]) rfl rfl rfl; exact Q0; exact C8; rfl; rfl; rfl; exact Q8; exact kb; rfl; rfl; rfl)
     (apply dst (u := .agg [.int _ _, .int _ _, .int _ _, .int _ _]) rfl rfl rfl; exact Q0; exact C8; rfl; rfl; rfl; exact Q8; exact kb; rfl; rfl; rfl)
     refine B3 9 [3, 3, 1, 0, 1, 0, 1, 0, 1] [(2, 7), (4, 7), (6, 7)] j2 (by decide +kernel) ?_ ?_
     ·(first | (focus (simp [ClearL, ids]; done)) | (focus (simp [ClearL, ids]; omega)) | (simp [ClearL, ids, Env.eval, upd]; (repeat' (first | omega | (intro hx; have := fo4 _ _ _ hx; omega) | apply And.intro))))
     refine A1 (B1 (A8 (B0 ?_)))
     have e : rqT t now r = (exT t now, (t.sn.getD i Sn0).an) := by
      unfold rqT; rw [reqT_same (t := exT t now) (hsn ⟨by omega, by omega⟩) (by show (t.sn.getD (snP r.cl t.sn) Sn0).st = r.st; rw [hp]; exact h6_10)]
      show (_, (t.sn.getD (snP r.cl t.sn) Sn0).an) = _; rw [hp]
     rw [e]
     refine P4 (tabIds Sl1 Ss1 W1 (exT t now).lk.length) (A6 (A7 rfl (by exact Q0) j2 kb rfl) (A6 (A7 rfl (by exact Q0) j2 kb rfl) A9)) ?_
     refine SnapL.cons _ _ _ _ (H4 (t := exT t now) ?_ ?_ (fun j hj => ?_) (fun a ha => ha)) (SnapL.cons _ _ _ _ (SnapC.agg (.cons _ _ _ _ (.int _ _) (.cons _ _ _ _ (.int _ _) (.cons _ _ _ _ (.int _ _) (.cons _ _ _ _ (.int _ _) .nil))))) SnapL.nil)
     ·exact T1.kl.mono (fun a ha => by have q := hP1 a (.inr (.inl ha)); (simp (disch := (first | omega | assumption)) only [↓appC, ↓updN, ↓updS, ↓app0]))
     ·exact T1.ks.mono (fun a ha => by have q := hP1 a (.inr (.inr (.inl ha))); (simp (disch := (first | omega | assumption)) only [↓appC, ↓updN, ↓updS, ↓app0]))
     ·exact (T1.kw j hj).mono (fun a ha => by have q := hP1 a (.inr (.inr (.inr ⟨j, hj, ha⟩))); (simp (disch := (first | omega | assumption)) only [↓appC, ↓updN, ↓updS, ↓app0]))
    ·refine F4 (e := false) j6 (P3 j5 (B3 13 [0, 0, 0, 1, 0, 1, 0, 1, 0, 1, 0, 0, 0] [] j2 (by decide +kernel) trivial ?_))
     refine A1 (wF rfl (A2 (B9 [0, 1, 3, 7, 3, 31, 63, 127, 3, 259, 1023, 2047, 4095] rfl (by decide +kernel) ?_)))
     refine F9 j5 (F9 j5 (C9 (off := 3) (s := 1) (r := false) j3 kz j3 ?_))
     (apply D5 (v := Ss1) j2; exact Q0; rfl; exact j5)
     refine I2 j5 ?_
     (refine d0 ((L3 (v := Ss1) j4 (ks1) (by omega) (by rw [List.length_map]; omega)).to (v' := .ptr (idZ Ss1) i 0) (by rw [Int.toNat_natCast])) rfl rfl rfl ?_)
     refine C9 (off := 1) (s := 1) (r := false) j3 kz j3 ?_
     (apply D5 (v := .int .i64 (t.sn.getD i Sn0).st) j2; exact kz1 (by omega); exact S5 (by omega); exact j5)
     refine C9 (off := 1) (s := 1) (r := false) j3 kz j3 ?_
     (apply D5 (v := .int _ _) j2; exact Q0; exact C8; exact j5)
     refine dgt j6 ?_ ?_ <;> intro h8_10
     ·refine F4 (e := true) j6 (P3 j5 (B3 13 [0, 0, 0, 1, 0, 1, 0, 1, 0, 1, 0, 0, 0] [] j2 (by decide +kernel) trivial ?_))
      refine A1 (wT rfl (A2 (A0 ?_)))
      (apply F7 (vs := [.int .i64 (exT t now).tm, .int .i64 (exT t now).nx, Sl1, Ss1]) j2; exact Q0; rfl; rfl; exact kb; rfl; exact j3)
      refine N0 (cs := [.int _ _, .int _ _, .int _ _, .int _ _]) j5 ?_
      (apply D6 (u := .agg [.int _ _, .int _ _, _, _]) j3; exact Q0; exact C8; rfl; rfl; rfl; exact Q8; exact kb; rfl; exact j2)
      (apply D6 (u := .agg [.int _ _, .int _ _, .int _ _, .int _ _]) j3; exact Q0; exact C8; rfl; rfl; rfl; exact Q8; exact kb; rfl; exact j2)
      refine A3 (A1 (B1 (A8 (B0 ?_))))
      have e : rqT t now r = (exT t now, bareA 7) := by
       unfold rqT; exact reqT_old (t := exT t now) (hsn ⟨by omega, by omega⟩) (by show ¬ (t.sn.getD (snP r.cl t.sn) Sn0).st = r.st; rw [hp]; exact h6_10) (by show (t.sn.getD (snP r.cl t.sn) Sn0).st > r.st; rw [hp]; exact h8_10)
      rw [e]
      refine P4 (tabIds Sl1 Ss1 W1 (exT t now).lk.length) (A6 (A7 rfl (by exact Q0) j2 kb rfl) (A6 (A7 rfl (by exact Q0) j2 kb rfl) A9)) ?_
      refine SnapL.cons _ _ _ _ (H4 (t := exT t now) ?_ ?_ (fun j hj => ?_) (fun a ha => ha)) (SnapL.cons _ _ _ _ (SnapC.agg (.cons _ _ _ _ (.int _ _) (.cons _ _ _ _ (.int _ _) (.cons _ _ _ _ (.int _ _) (.cons _ _ _ _ (.int _ _) .nil))))) SnapL.nil)
      ·exact T1.kl.mono (fun a ha => by have q := hP1 a (.inr (.inl ha)); (simp (disch := (first | omega | assumption)) only [↓appC, ↓updN, ↓updS, ↓app0]))
      ·exact T1.ks.mono (fun a ha => by have q := hP1 a (.inr (.inr (.inl ha))); (simp (disch := (first | omega | assumption)) only [↓appC, ↓updN, ↓updS, ↓app0]))
      ·exact (T1.kw j hj).mono (fun a ha => by have q := hP1 a (.inr (.inr (.inr ⟨j, hj, ha⟩))); (simp (disch := (first | omega | assumption)) only [↓appC, ↓updN, ↓updS, ↓app0]))
     ·refine F4 (e := false) j6 (P3 j5 (B3 13 [0, 0, 0, 1, 0, 1, 0, 1, 0, 1, 0, 0, 0] [] j2 (by decide +kernel) trivial ?_))
      refine A1 (wF rfl (A2 (A0 (C7 j5 (E1 (c := true) j5 (C7 j5 (A4 j3 (A4 j3 (A4 j3 (A4 j3 (B7 (e := false) j6 (C3 j5 ?_))))))))))))
      refine A3 (A1 (wF rfl (B2 (C0 (A1 (A2 (A0 ?_)))))))
      (apply F7 (vs := [.int _ _, .int _ _, .int _ _, .int _ _, .str _]) j2; exact Q0; exact C8; rfl; exact kb; rfl; exact j3)
      refine L4 (o106 (exT t now) r bq.bd hhd2 T1 hkd) rfl j5 ?_
      rintro _ g3 m2 ⟨rfl, S2⟩ hc2 hl2
      obtain ⟨Sl2, Ss2, W2, T2, x1, x2, x3⟩ := S2
      have hO1 : ∀ a, OwnT m1 Sl1 Ss1 W1 (exT t now).lk.length a → 4 ≤ a := fun a o => by have := TV.ownM a o; omega
      have hO : ∀ a, OwnT m1 Sl2 Ss2 W2 (doT (exT t now) r).1.lk.length a → 4 ≤ a := fun a o => (x1 a o).elim (fun e => hO1 a e) (fun e => by omega)
      have p1 : g3 (0 + 1) = some ⟨[[.int .i64 r.cl, .int .i64 r.st, .int .i64 r.kd, .int .i64 r.le, .str r.nm]], 5, 64⟩ := by rw [x2 (0 + 1) (by omega) (fun o => by have := hO1 _ o; omega)]; exact q1
      have p2 : g3 (0 + 1 + 1) = some ⟨[[.int .i64 0, .int .i64 0, .nsl, .nsl]], 4, 35⟩ := by rw [x2 (0 + 1 + 1) (by omega) (fun o => by have := hO1 _ o; omega)]; exact q2
      have p3 : g3 (0 + 1 + 1 + 1) = some ⟨[[.int .i64 0, .int .i64 0, .int .i64 0, .int .i64 0]], 4, 60⟩ := by rw [x2 (0 + 1 + 1 + 1) (by omega) (fun o => by have := hO1 _ o; omega)]; exact q3
      have kid2 : g3 m1 = some ⟨[[.int .i64 (doT (exT t now) r).1.tm, .int .i64 (doT (exT t now) r).1.nx, Sl2, Ss2]], 4, 35⟩ := T2.kid
      have ks2 : IsZ g3 Ss2 (t.sn.map Sn.V) 6 115 := by have := T2.ks; rwa [BG] at this
      have kcl2 := T2.kl.cell
      have kcs2 := ks2.cell
      have hlen2 := lenZ ks2
      rw [List.length_map] at hlen2
      have kz2 := fun (h : 0 < t.sn.length) => kZ ks2 (by rw [List.length_map]; exact h)
      have fz2 := fun (h : 0 < t.sn.length) => T2.fs _ (fpZ ks2 (by rw [List.length_map]; exact h))
      have fo3 : idZ Ss2 < m2 ∧ idZ Ss2 ≠ m1 := by
       unfold idZ
       cases hx : fpV Ss2 with
       | none => exact ⟨by show 0 < m2; omega, by show 0 ≠ m1; omega⟩
       | some a => have := T2.fs a hx; exact ⟨this.1, this.2.1⟩
      have fo4 : ∀ a b x, x ∈ srcIds (slZ Ss2 a b) → x < m2 ∧ x ≠ m1 := fun a b x hx => by rw [idsZ _ _ _ x hx]; exact fo3
      have fo2 := fun (h : 0 < t.sn.length) => hO _ (.inr (.inr (.inl (fpZ ks2 (by rw [List.length_map]; exact h)))))
      refine H3 j6 ?_
      (apply D6 (u := .agg [.int _ _, .int _ _, .int _ _, .int _ _]) j3; exact Q0; exact C8; rfl; rfl; rfl; exact Q8; exact kb; rfl; exact j2)
      refine A3 (A1 (A2 (A0 (C2 (off := 0) (s := 1) (r := false) j3 kz j3 ?_))))
      (apply C6 (v := .int _ _) j2; exact Q0; exact C8; exact j5)
      refine C2 (off := 1) (s := 1) (r := false) j3 kz j3 ?_
      (apply C6 (v := .int _ _) j2; exact Q0; exact C8; exact j5)
      (apply F7 (vs := [.int _ _, .int _ _, .int _ _, .int _ _]) j2; exact Q0; exact C8; rfl; exact kb; rfl; exact j3)
      refine N0 (cs := [.int _ _, .int _ _, .int _ _, .int _ _, .int _ _, .int _ _]) j5 (H3 j6 ?_)
      (apply D6 (u := .agg [.int _ _, .int _ _, .int _ _, .int _ _, .int _ _, .int _ _]) j3; exact Q0; exact C8; rfl; rfl; rfl; exact Q8; exact kb; rfl; exact j2)
      refine A3 (A1 (A2 (A2 (A0 (C7 j5 (A3 (A1 (wT rfl ?_))))))))
      have fzA := fz2 (by omega)
      have fzB := fo2 (by omega)
      have fzC := fzA.1; have fzD := fzA.2.1
      have kzA := kz2 (by omega)
      have snA := S5 (L := t.sn) (k := i) (by omega)
      refine A0 (C2 (off := 3) (s := 1) (r := false) j3 kz j3 ?_)
      (apply C6 (v := Ss2) j2; exact Q0; rfl; exact j5)
      refine B5 j5 ?_
      (apply F7 (vs := [.int _ _, .int _ _, .int _ _, .int _ _, .int _ _, .int _ _]) j2; exact Q0; exact C8; rfl; exact kb; rfl; exact j3)
      (refine r0 ((L3 (v := Ss2) j4 (ks2.mono (fun a ha => by have q := T2.fs a ha; have qa := q.1; have qb := q.2.1; have qc := hO a (.inr (.inr (.inl ha))); (simp (disch := (first | omega | assumption)) only [↓appC, ↓updN, ↓updS, ↓app0]))) (by omega) (by rw [List.length_map]; omega)).to (v' := .ptr (idZ Ss2) i 0) (by rw [Int.toNat_natCast])) rfl rfl rfl ?_)
      (apply D6 (u := .agg [.int _ _, .int _ _, .int _ _, .int _ _, .int _ _, .int _ _]) j3; exact Q0; exact C8; rfl; rfl; rfl; exact Q8; exact kb; rfl; exact j2)
      refine A3 (A1 (A2 (B9 [0, 0, 1, 7] rfl (by decide +kernel) ?_)))
      (apply L8 (vs := [.int _ _, .int _ _, _, _]) j2; exact Q0; exact C8; rfl; exact kb; exact j4)
      (apply L8 (vs := [.int _ _, .int _ _, .int _ _, .int _ _]) j2; exact Q0; exact C8; rfl; exact kb; exact j4)
      (apply dst (u := .agg [.int _ _, .int _ _, _, _]) rfl rfl rfl; exact Q0; exact C8; rfl; rfl; rfl; exact Q8; exact kb; rfl; rfl; rfl)
      (apply dst (u := .agg [.int _ _, .int _ _, .int _ _, .int _ _]) rfl rfl rfl; exact Q0; exact C8; rfl; rfl; rfl; exact Q8; exact kb; rfl; rfl; rfl)
      refine B3 4 [3, 3, 1, 1] [(1, 2)] j2 (by decide +kernel) ?_ ?_
      ·(first | (focus (simp [ClearL, ids]; done)) | (focus (simp [ClearL, ids]; omega)) | (simp [ClearL, ids, Env.eval, upd]; (repeat' (first | omega | (intro hx; have := fo4 _ _ _ hx; omega) | apply And.intro))))
      refine A1 (B1 ?_)
      first
      |(have hthere := hsn ⟨by omega, by omega⟩
        obtain ⟨sb, esb, ksb⟩ := ks2.some (by rw [List.length_map]; omega)
        rw [List.length_map] at esb
        have eid : idZ Ss2 = sb := by rw [esb]; rfl
        have fsb : fpV Ss2 = some (idZ Ss2) := by rw [esb]; rfl
        have fzA := fz2 (by omega)
        have fzB := fo2 (by omega)
        have e : rqT t now r = (⟨(doT (exT t now) r).1.tm, (doT (exT t now) r).1.nx, (doT (exT t now) r).1.lk, t.sn.set i ⟨r.cl, r.st, (doT (exT t now) r).2⟩⟩, (doT (exT t now) r).2) := by
         unfold rqT; rw [V1 (t := exT t now) hthere (by show ¬ (t.sn.getD (snP r.cl t.sn) Sn0).st = r.st; rw [hp]; exact h6_10) (by show ¬ (t.sn.getD (snP r.cl t.sn) Sn0).st > r.st; rw [hp]; exact h8_10)]
         show (Tb.mk _ _ _ (t.sn.set (snP r.cl t.sn) _), _) = _; rw [hp]
        rw [e]
        refine P4 (tabIds Sl2 Ss2 W2 (doT (exT t now) r).1.lk.length) (A6 (A7 rfl (by exact Q0) j2 kb rfl) (A6 (A7 rfl (by exact Q0) j2 kb rfl) A9)) ?_
        refine SnapL.cons _ _ _ _ (H4 (t := ⟨(doT (exT t now) r).1.tm, (doT (exT t now) r).1.nx, (doT (exT t now) r).1.lk, t.sn.set i ⟨r.cl, r.st, (doT (exT t now) r).2⟩⟩) ?_ ?_ (fun j hj => ?_) (fun a ha => ha)) (SnapL.cons _ _ _ _ (SnapC.agg (.cons _ _ _ _ (.int _ _) (.cons _ _ _ _ (.int _ _) (.cons _ _ _ _ (.int _ _) (.cons _ _ _ _ (.int _ _) .nil))))) SnapL.nil)
        focus (exact T2.kl.mono (fun a ha => by have q := hO a (.inr (.inl ha)); have q9 := T2.lt (a := a) (.inr (.inl ha)); have q8 : a ≠ idZ Ss2 := fun e => fzA.2.2 (by rw [← e]; exact ha); have q7 : a ≠ m1 := (T2.fl a ha).2; (simp (disch := (first | omega | assumption)) only [↓appC, ↓updN, ↓updS, ↓app0])))
        rotate_left
        focus (exact (T2.kw j hj).mono (fun a ha => by have q := hO a (.inr (.inr (.inr ⟨j, hj, ha⟩))); have q9 := T2.lt (a := a) (.inr (.inr (.inr ⟨j, hj, ha⟩))); have q8 : a ≠ idZ Ss2 := fun e => (T2.fw j a hj ha).2.2.2.1 (by rw [e]; exact fsb); have q7 : a ≠ m1 := (T2.fw j a hj ha).2.1; (simp (disch := (first | omega | assumption)) only [↓appC, ↓updN, ↓updS, ↓app0])))
        refine .inr ⟨idZ Ss2, by rw [List.length_map, List.length_set, eid]; exact esb, ?_⟩
        (simp (disch := (first | omega | assumption)) only [↓appC, ↓updN, ↓updS, ↓app0])
        exact congrArg (fun z => some (Blk.mk z 6 115)) (by rw [List.map_set]; rfl))
      |(have hnot := (show ¬ snH r.cl t.sn by unfold snH; rw [hp]; intro hx; have hx1 := hx.1; have hx2 := hx.2; omega)
        have e : rqT t now r = (⟨(doT (exT t now) r).1.tm, (doT (exT t now) r).1.nx, (doT (exT t now) r).1.lk, insL t.sn i ⟨r.cl, r.st, (doT (exT t now) r).2⟩⟩, (doT (exT t now) r).2) := by
         unfold rqT; rw [Y1 (t := exT t now) hnot (by show ¬ t.sn.length = 6; omega)]
         show (Tb.mk _ _ _ (insL t.sn (snP r.cl t.sn) _), _) = _; rw [hp]
        rw [e]
        refine P4 (tabIds Sl2 (.view (m2 + 1 + 1 + 1 + 1 + 1 + 1) 0 0) W2 (doT (exT t now) r).1.lk.length) (A6 (A7 rfl (by exact Q0) j2 kb rfl) (A6 (A7 rfl (by exact Q0) j2 kb rfl) A9)) ?_
        refine SnapL.cons _ _ _ _ (H4 (t := ⟨(doT (exT t now) r).1.tm, (doT (exT t now) r).1.nx, (doT (exT t now) r).1.lk, insL t.sn i ⟨r.cl, r.st, (doT (exT t now) r).2⟩⟩) ?_ ?_ (fun j hj => ?_) (fun a ha => ha)) (SnapL.cons _ _ _ _ (SnapC.agg (.cons _ _ _ _ (.int _ _) (.cons _ _ _ _ (.int _ _) (.cons _ _ _ _ (.int _ _) (.cons _ _ _ _ (.int _ _) .nil))))) SnapL.nil)
        focus (exact T2.kl.mono (fun a ha => by have q := hO a (.inr (.inl ha)); have q9 := T2.lt (a := a) (.inr (.inl ha)); have q7 : a ≠ m1 := (T2.fl a ha).2; (simp (disch := (first | omega | assumption)) only [↓appC, ↓updN, ↓updS, ↓app0])))
        rotate_left
        focus (exact (T2.kw j hj).mono (fun a ha => by have q := hO a (.inr (.inr (.inr ⟨j, hj, ha⟩))); have q9 := T2.lt (a := a) (.inr (.inr (.inr ⟨j, hj, ha⟩))); have q7 : a ≠ m1 := (T2.fw j a hj ha).2.1; (simp (disch := (first | omega | assumption)) only [↓appC, ↓updN, ↓updS, ↓app0])))
        refine .inr ⟨m2 + 1 + 1 + 1 + 1 + 1 + 1, congrArg (V.view _ 0) ((insLen2 (List.length_map ..) hI.1).trans (by rw [List.length_map, J0 hI.1])), ?_⟩
        (simp (disch := (first | omega | assumption)) only [↓appC, ↓updN, ↓updS, ↓app0])
        exact congrArg (fun z => some (Blk.mk z 6 115)) ((BT (by rw [List.length_map]; exact hI.1) rfl).trans (BY Sn.V t.sn i ⟨r.cl, r.st, (doT (exT t now) r).2⟩).symm))
   ·refine F4 (e := false) j6 (P3 j5 (B3 17 [0, 0, 0, 1, 0, 1, 0, 1, 0, 1, 0, 0, 0, 0, 1, 0, 0] [] j2 (by decide +kernel) trivial ?_))
    refine A1 (A2 (B4 (A2 ?_)))
    have hcase : (i < t.sn.length ∧ (t.sn.getD i Sn0).cl = r.cl ∧ snH r.cl t.sn) ∨ (¬ snH r.cl t.sn) := by
     by_cases hs : snH r.cl t.sn
     ·left; have h1 := hs.1; have h2 := hs.2; rw [hp] at h1 h2; exact ⟨h1, h2, hs⟩
     ·exact .inr hs
    have hsn : (i < t.sn.length ∧ (t.sn.getD i Sn0).cl = r.cl) → snH r.cl t.sn := fun h => by unfold snH; rw [hp]; exact h
    refine B9 [0, 1, 3, 7, 3, 31, 63, 127, 3, 259, 1023, 2047, 4095] rfl (by decide +kernel) ?_
    refine F9 j5 (F9 j5 (A5 j3 (A5 j3 (A5 j3 (A5 j3 (A5 j3 (A5 j3 (A5 j3 (A5 j3 (A5 j3 (F4 (e := false) j6 (P3 j5 ?_))))))))))))
    refine B3 13 [0, 0, 0, 0, 0, 0, 0, 0, 0, 0, 0, 0, 0] [] j2 (by decide +kernel) trivial ?_
    refine A1 (wF rfl (A2 (B9 [0, 1, 3, 7, 3, 31, 63, 127, 3, 259, 1023, 2047, 4095] rfl (by decide +kernel) ?_)))
    refine F9 j5 (F9 j5 (A5 j3 (A5 j3 (A5 j3 (A5 j3 (A5 j3 (A5 j3 (A5 j3 (A5 j3 (A5 j3 (F4 (e := false) j6 (P3 j5 ?_))))))))))))
    refine B3 13 [0, 0, 0, 0, 0, 0, 0, 0, 0, 0, 0, 0, 0] [] j2 (by decide +kernel) trivial ?_
    refine A1 (wF rfl (A2 (A0 (C7 j5 (E1 (c := false) j5 (C7 j5 (C2 (off := 3) (s := 1) (r := false) j3 kz j3 ?_)))))))
    (apply C6 (v := Ss1) j2; exact Q0; rfl; exact j5)
    (refine G7 rfl rfl hlen1 j3 ?_)
    refine H5 j6 ?_ ?_ <;> intro h10_6
    ·refine B7 (e := true) j6 (C3 j5 (A3 (A1 (wT rfl (A2 (A0 ?_))))))
     (apply F7 (vs := [.int .i64 (exT t now).tm, .int .i64 (exT t now).nx, Sl1, Ss1]) j2; exact Q0; rfl; rfl; exact kb; rfl; exact j3)
     refine N0 (cs := [.int _ _, .int _ _, .int _ _, .int _ _]) j5 ?_
     (apply D6 (u := .agg [.int _ _, .int _ _, _, _]) j3; exact Q0; exact C8; rfl; rfl; rfl; exact Q8; exact kb; rfl; exact j2)
     (apply D6 (u := .agg [.int _ _, .int _ _, .int _ _, .int _ _]) j3; exact Q0; exact C8; rfl; rfl; rfl; exact Q8; exact kb; rfl; exact j2)
     refine A3 (A1 (B1 (A8 (B0 ?_))))
     have e : rqT t now r = (exT t now, bareA 6) := by
      unfold rqT; exact AA (t := exT t now) (show ¬ snH r.cl t.sn by unfold snH; rw [hp]; intro hx; have hx1 := hx.1; have hx2 := hx.2; omega) (by show t.sn.length = 6; omega)
     rw [e]
     refine P4 (tabIds Sl1 Ss1 W1 (exT t now).lk.length) (A6 (A7 rfl (by exact Q0) j2 kb rfl) (A6 (A7 rfl (by exact Q0) j2 kb rfl) A9)) ?_
     refine SnapL.cons _ _ _ _ (H4 (t := exT t now) ?_ ?_ (fun j hj => ?_) (fun a ha => ha)) (SnapL.cons _ _ _ _ (SnapC.agg (.cons _ _ _ _ (.int _ _) (.cons _ _ _ _ (.int _ _) (.cons _ _ _ _ (.int _ _) (.cons _ _ _ _ (.int _ _) .nil))))) SnapL.nil)
     ·exact T1.kl.mono (fun a ha => by have q := hP1 a (.inr (.inl ha)); (simp (disch := (first | omega | assumption)) only [↓appC, ↓updN, ↓updS, ↓app0]))
     ·exact T1.ks.mono (fun a ha => by have q := hP1 a (.inr (.inr (.inl ha))); (simp (disch := (first | omega | assumption)) only [↓appC, ↓updN, ↓updS, ↓app0]))
     ·exact (T1.kw j hj).mono (fun a ha => by have q := hP1 a (.inr (.inr (.inr ⟨j, hj, ha⟩))); (simp (disch := (first | omega | assumption)) only [↓appC, ↓updN, ↓updS, ↓app0]))
    ·refine B7 (e := false) j6 (C3 j5 (A3 (A1 (wF rfl (B2 (C0 (A1 (A2 (A0 ?_)))))))))
     (apply F7 (vs := [.int _ _, .int _ _, .int _ _, .int _ _, .str _]) j2; exact Q0; exact C8; rfl; exact kb; rfl; exact j3)
     refine L4 (o106 (exT t now) r bq.bd hhd2 T1 hkd) rfl j5 ?_
     rintro _ g3 m2 ⟨rfl, S2⟩ hc2 hl2
     obtain ⟨Sl2, Ss2, W2, T2, x1, x2, x3⟩ := S2
     have hO1 : ∀ a, OwnT m1 Sl1 Ss1 W1 (exT t now).lk.length a → 4 ≤ a := fun a o => by have := TV.ownM a o; omega
     have hO : ∀ a, OwnT m1 Sl2 Ss2 W2 (doT (exT t now) r).1.lk.length a → 4 ≤ a := fun a o => (x1 a o).elim (fun e => hO1 a e) (fun e => by omega)
     have p1 : g3 (0 + 1) = some ⟨[[.int .i64 r.cl, .int .i64 r.st, .int .i64 r.kd, .int .i64 r.le, .str r.nm]], 5, 64⟩ := by rw [x2 (0 + 1) (by omega) (fun o => by have := hO1 _ o; omega)]; exact q1
     have p2 : g3 (0 + 1 + 1) = some ⟨[[.int .i64 0, .int .i64 0, .nsl, .nsl]], 4, 35⟩ := by rw [x2 (0 + 1 + 1) (by omega) (fun o => by have := hO1 _ o; omega)]; exact q2
     have p3 : g3 (0 + 1 + 1 + 1) = some ⟨[[.int .i64 0, .int .i64 0, .int .i64 0, .int .i64 0]], 4, 60⟩ := by rw [x2 (0 + 1 + 1 + 1) (by omega) (fun o => by have := hO1 _ o; omega)]; exact q3
     have kid2 : g3 m1 = some ⟨[[.int .i64 (doT (exT t now) r).1.tm, .int .i64 (doT (exT t now) r).1.nx, Sl2, Ss2]], 4, 35⟩ := T2.kid
     have ks2 : IsZ g3 Ss2 (t.sn.map Sn.V) 6 115 := by have := T2.ks; rwa [BG] at this
     have kcl2 := T2.kl.cell
     have kcs2 := ks2.cell
     have hlen2 := lenZ ks2
     rw [List.length_map] at hlen2
     have kz2 := fun (h : 0 < t.sn.length) => kZ ks2 (by rw [List.length_map]; exact h)
     have fz2 := fun (h : 0 < t.sn.length) => T2.fs _ (fpZ ks2 (by rw [List.length_map]; exact h))
     have fo3 : idZ Ss2 < m2 ∧ idZ Ss2 ≠ m1 := by
      unfold idZ
      cases hx : fpV Ss2 with
      | none => exact ⟨by show 0 < m2; omega, by show 0 ≠ m1; omega⟩
      | some a => have := T2.fs a hx; exact ⟨this.1, this.2.1⟩
     have fo4 : ∀ a b x, x ∈ srcIds (slZ Ss2 a b) → x < m2 ∧ x ≠ m1 := fun a b x hx => by rw [idsZ _ _ _ x hx]; exact fo3
     have fo2 := fun (h : 0 < t.sn.length) => hO _ (.inr (.inr (.inl (fpZ ks2 (by rw [List.length_map]; exact h)))))
     refine H3 j6 ?_
     (apply D6 (u := .agg [.int _ _, .int _ _, .int _ _, .int _ _]) j3; exact Q0; exact C8; rfl; rfl; rfl; exact Q8; exact kb; rfl; exact j2)
     refine A3 (A1 (A2 (A0 (C2 (off := 0) (s := 1) (r := false) j3 kz j3 ?_))))
     (apply C6 (v := .int _ _) j2; exact Q0; exact C8; exact j5)
     refine C2 (off := 1) (s := 1) (r := false) j3 kz j3 ?_
     (apply C6 (v := .int _ _) j2; exact Q0; exact C8; exact j5)
     (apply F7 (vs := [.int _ _, .int _ _, .int _ _, .int _ _]) j2; exact Q0; exact C8; rfl; exact kb; rfl; exact j3)
     refine N0 (cs := [.int _ _, .int _ _, .int _ _, .int _ _, .int _ _, .int _ _]) j5 (H3 j6 ?_)
     (apply D6 (u := .agg [.int _ _, .int _ _, .int _ _, .int _ _, .int _ _, .int _ _]) j3; exact Q0; exact C8; rfl; rfl; rfl; exact Q8; exact kb; rfl; exact j2)
     refine A3 (A1 (A2 (A2 (A0 (C7 j5 (A3 (A1 (wF rfl (B9 [0, 0, 2, 0, 14, 31, 0, 64, 255, 0, 512, 0, 3584, 8191, 16383, 32767] rfl (by decide +kernel) ?_)))))))))
     refine X6 (es := []) j4 kz kb rfl rfl j3 (C9 (off := 3) (s := 1) (r := false) j3 kz j3 ?_)
     (apply D5 (v := Ss2) j2; exact Q0; rfl; exact j5)
     refine I2 j5 ?_
     (refine d0 (T3 (v := Ss2) j3 (ks2.mono (fun a ha => by have q := T2.fs a ha; have qa := q.1; have qb := q.2.1; have qc := hO a (.inr (.inr (.inl ha))); (simp (disch := (first | omega | assumption)) only [↓appC, ↓updN, ↓updS, ↓app0]))) rfl (by first | rfl | (rw [List.length_map]; rfl)) (by omega) (by first | omega | (rw [List.length_map]; omega)) (by first | omega | (rw [List.length_map]; omega))) rfl rfl rfl ?_)
     (apply T6 (s' := 48)  rfl rfl; exact Q0; exact j2; exact Q36; exact j2; exact kz; exact Q22; exact Q28; exact Q12; exact Q12; exact j3)
     (apply L8 (vs := [.int _ _, .int _ _, .int _ _, .int _ _, .int _ _, .int _ _]) j2; exact Q0; exact C8; rfl; exact kb; exact j4)
     refine X6 (es := [[.int _ _, .int _ _, .int _ _, .int _ _, .int _ _, .int _ _]]) j4 kz kb rfl rfl j3 ?_
     (apply T6 (s' := 48) (es := [[.int _ _, .int _ _, .int _ _, .int _ _, .int _ _, .int _ _]]) rfl rfl; exact Q0; exact j2; exact Q36; exact j2; exact kz; exact Q22; exact Q28; exact Q12; exact Q12; exact j3)
     refine C9 (off := 3) (s := 1) (r := false) j3 kz j3 ?_
     (apply D5 (v := Ss2) j2; exact Q0; rfl; exact j5)
     refine I2 j5 ?_
     (refine d0 (T3 (v := Ss2) j3 (ks2.mono (fun a ha => by have q := T2.fs a ha; have qa := q.1; have qb := q.2.1; have qc := hO a (.inr (.inr (.inl ha))); (simp (disch := (first | omega | assumption)) only [↓appC, ↓updN, ↓updS, ↓app0]))) rfl (by first | rfl | (rw [List.length_map]; rfl)) (by omega) (by first | omega | (rw [List.length_map]; omega)) (by first | omega | (rw [List.length_map]; omega))) rfl rfl rfl ?_)
     (apply T6 (s' := 48)  rfl rfl; exact Q0; exact j2; exact Q36; exact j2; exact kz; exact Q22; exact Q28; exact Q12; exact Q12; exact j3)
     refine C9 (off := 3) (s := 1) (r := false) j3 kz j3 ?_
     (apply dst (u := .view _ _ _) rfl rfl rfl; exact Q0; exact C8; rfl; rfl; rfl; exact Q8; exact kb; rfl; rfl; rfl)
     refine B3 16 [3, 0, 3, 1, 0, 1, 0, 3, 3, 1, 3, 1, 0, 1, 0, 3] [(0, 2), (0, 4), (0, 6), (5, 6), (0, 7), (2, 7), (4, 7), (5, 7), (0, 10), (5, 10), (7, 10), (8, 10), (0, 12), (5, 12), (7, 12), (8, 12)] j2 (by decide +kernel) ?_ ?_
     ·(first | (focus (simp [ClearL, ids]; done)) | (focus (simp [ClearL, ids]; omega)) | (simp [ClearL, ids, Env.eval, upd]; (repeat' (first | omega | (intro hx; have := fo4 _ _ _ hx; omega) | apply And.intro))))
     refine A1 (A2 (B9 [0, 0, 1, 7] rfl (by decide +kernel) ?_))
     (apply L8 (vs := [.int _ _, .int _ _, _, _]) j2; exact Q0; exact C8; rfl; exact kb; exact j4)
     (apply L8 (vs := [.int _ _, .int _ _, .int _ _, .int _ _]) j2; exact Q0; exact C8; rfl; exact kb; exact j4)
     (apply dst (u := .agg [.int _ _, .int _ _, _, _]) rfl rfl rfl; exact Q0; exact C8; rfl; rfl; rfl; exact Q8; exact kb; rfl; rfl; rfl)
     (apply dst (u := .agg [.int _ _, .int _ _, .int _ _, .int _ _]) rfl rfl rfl; exact Q0; exact C8; rfl; rfl; rfl; exact Q8; exact kb; rfl; rfl; rfl)
     refine B3 4 [3, 3, 1, 1] [(1, 2)] j2 (by decide +kernel) ?_ ?_
     ·(first | (focus (simp [ClearL, ids]; done)) | (focus (simp [ClearL, ids]; omega)) | (simp [ClearL, ids, Env.eval, upd]; (repeat' (first | omega | (intro hx; have := fo4 _ _ _ hx; omega) | apply And.intro))))
     refine A1 (B1 ?_)
     first
     |(have hthere := hsn ⟨by omega, by omega⟩
       obtain ⟨sb, esb, ksb⟩ := ks2.some (by rw [List.length_map]; omega)
       rw [List.length_map] at esb
       have eid : idZ Ss2 = sb := by rw [esb]; rfl
       have fsb : fpV Ss2 = some (idZ Ss2) := by rw [esb]; rfl
       have fzA := fz2 (by omega)
       have fzB := fo2 (by omega)
       have e : rqT t now r = (⟨(doT (exT t now) r).1.tm, (doT (exT t now) r).1.nx, (doT (exT t now) r).1.lk, t.sn.set i ⟨r.cl, r.st, (doT (exT t now) r).2⟩⟩, (doT (exT t now) r).2) := by
        unfold rqT; rw [V1 (t := exT t now) hthere (by show ¬ (t.sn.getD (snP r.cl t.sn) Sn0).st = r.st; rw [hp]; exact h6_10) (by show ¬ (t.sn.getD (snP r.cl t.sn) Sn0).st > r.st; rw [hp]; exact h8_10)]
        show (Tb.mk _ _ _ (t.sn.set (snP r.cl t.sn) _), _) = _; rw [hp]
       rw [e]
       refine P4 (tabIds Sl2 Ss2 W2 (doT (exT t now) r).1.lk.length) (A6 (A7 rfl (by exact Q0) j2 kb rfl) (A6 (A7 rfl (by exact Q0) j2 kb rfl) A9)) ?_
       refine SnapL.cons _ _ _ _ (H4 (t := ⟨(doT (exT t now) r).1.tm, (doT (exT t now) r).1.nx, (doT (exT t now) r).1.lk, t.sn.set i ⟨r.cl, r.st, (doT (exT t now) r).2⟩⟩) ?_ ?_ (fun j hj => ?_) (fun a ha => ha)) (SnapL.cons _ _ _ _ (SnapC.agg (.cons _ _ _ _ (.int _ _) (.cons _ _ _ _ (.int _ _) (.cons _ _ _ _ (.int _ _) (.cons _ _ _ _ (.int _ _) .nil))))) SnapL.nil)
       focus (exact T2.kl.mono (fun a ha => by have q := hO a (.inr (.inl ha)); have q9 := T2.lt (a := a) (.inr (.inl ha)); have q8 : a ≠ idZ Ss2 := fun e => fzA.2.2 (by rw [← e]; exact ha); have q7 : a ≠ m1 := (T2.fl a ha).2; (simp (disch := (first | omega | assumption)) only [↓appC, ↓updN, ↓updS, ↓app0])))
       rotate_left
       focus (exact (T2.kw j hj).mono (fun a ha => by have q := hO a (.inr (.inr (.inr ⟨j, hj, ha⟩))); have q9 := T2.lt (a := a) (.inr (.inr (.inr ⟨j, hj, ha⟩))); have q8 : a ≠ idZ Ss2 := fun e => (T2.fw j a hj ha).2.2.2.1 (by rw [e]; exact fsb); have q7 : a ≠ m1 := (T2.fw j a hj ha).2.1; (simp (disch := (first | omega | assumption)) only [↓appC, ↓updN, ↓updS, ↓app0])))
       refine .inr ⟨idZ Ss2, by rw [List.length_map, List.length_set, eid]; exact esb, ?_⟩
       (simp (disch := (first | omega | assumption)) only [↓appC, ↓updN, ↓updS, ↓app0])
       exact congrArg (fun z => some (Blk.mk z 6 115)) (by rw [List.map_set]; rfl))
     |(have hnot := (show ¬ snH r.cl t.sn by unfold snH; rw [hp]; intro hx; have hx1 := hx.1; have hx2 := hx.2; omega)
       have e : rqT t now r = (⟨(doT (exT t now) r).1.tm, (doT (exT t now) r).1.nx, (doT (exT t now) r).1.lk, insL t.sn i ⟨r.cl, r.st, (doT (exT t now) r).2⟩⟩, (doT (exT t now) r).2) := by
        unfold rqT; rw [Y1 (t := exT t now) hnot (by show ¬ t.sn.length = 6; omega)]
        show (Tb.mk _ _ _ (insL t.sn (snP r.cl t.sn) _), _) = _; rw [hp]
       rw [e]
       refine P4 (tabIds Sl2 (.view (m2 + 1 + 1 + 1 + 1 + 1 + 1) 0 0) W2 (doT (exT t now) r).1.lk.length) (A6 (A7 rfl (by exact Q0) j2 kb rfl) (A6 (A7 rfl (by exact Q0) j2 kb rfl) A9)) ?_
       refine SnapL.cons _ _ _ _ (H4 (t := ⟨(doT (exT t now) r).1.tm, (doT (exT t now) r).1.nx, (doT (exT t now) r).1.lk, insL t.sn i ⟨r.cl, r.st, (doT (exT t now) r).2⟩⟩) ?_ ?_ (fun j hj => ?_) (fun a ha => ha)) (SnapL.cons _ _ _ _ (SnapC.agg (.cons _ _ _ _ (.int _ _) (.cons _ _ _ _ (.int _ _) (.cons _ _ _ _ (.int _ _) (.cons _ _ _ _ (.int _ _) .nil))))) SnapL.nil)
       focus (exact T2.kl.mono (fun a ha => by have q := hO a (.inr (.inl ha)); have q9 := T2.lt (a := a) (.inr (.inl ha)); have q7 : a ≠ m1 := (T2.fl a ha).2; (simp (disch := (first | omega | assumption)) only [↓appC, ↓updN, ↓updS, ↓app0])))
       rotate_left
       focus (exact (T2.kw j hj).mono (fun a ha => by have q := hO a (.inr (.inr (.inr ⟨j, hj, ha⟩))); have q9 := T2.lt (a := a) (.inr (.inr (.inr ⟨j, hj, ha⟩))); have q7 : a ≠ m1 := (T2.fw j a hj ha).2.1; (simp (disch := (first | omega | assumption)) only [↓appC, ↓updN, ↓updS, ↓app0])))
       refine .inr ⟨m2 + 1 + 1 + 1 + 1 + 1 + 1, congrArg (V.view _ 0) ((insLen2 (List.length_map ..) hI.1).trans (by rw [List.length_map, J0 hI.1])), ?_⟩
       (simp (disch := (first | omega | assumption)) only [↓appC, ↓updN, ↓updS, ↓app0])
       exact congrArg (fun z => some (Blk.mk z 6 115)) ((BT (by rw [List.length_map]; exact hI.1) rfl).trans (BY Sn.V t.sn i ⟨r.cl, r.st, (doT (exT t now) r).2⟩).symm))
 ·refine F9 j5 (A5 j3 (A5 j3 (A5 j3 (A5 j3 (A5 j3 (A5 j3 (A5 j3 (A5 j3 (A5 j3 (F4 (e := false) j6 (B3 16 [0, 0, 0, 0, 0, 0, 0, 0, 0, 0, 0, 0, 0, 1, 0, 0] [] j2 (by decide +kernel) trivial ?_)))))))))))
  refine A1 (wF rfl (E5 (E6 (D2 (C5 (A1 (A2 ?_)))))))
  have hp : snP r.cl t.sn = i := by
   first
   | exact Z8 hI.1 hI.2 (fun _ => h3_14)
   | exact Z8 hI.1 hI.2 (fun h => absurd h (by omega))
  refine B9 [0, 0, 2, 6, 15, 31, 63, 127, 63, 511, 1023, 2047, 63, 4159, 16383, 32767, 65535] rfl (by decide +kernel) ?_
  refine I2 j5 (C9 (off := 3) (s := 1) (r := false) j3 kz j3 ?_)
  (apply D5 (v := Ss1) j2; exact Q0; rfl; exact j5)
  (refine dll rfl rfl hlen1 j3 ?_)
  refine dlt j6 (fun h => absurd h (by omega)) ?_
  intro h5_4
  refine F9 j5 (A5 j3 (A5 j3 (A5 j3 (A5 j3 (A5 j3 (A5 j3 (A5 j3 (A5 j3 (A5 j3 (F4 (e := false) j6 (P3 j5 (B3 17 [0, 0, 0, 0, 0, 0, 0, 0, 0, 0, 0, 0, 0, 0, 1, 0, 0] [] j2 (by decide +kernel) trivial ?_))))))))))))
  refine A1 (A2 (B4 (A2 ?_)))
  have hcase : (i < t.sn.length ∧ (t.sn.getD i Sn0).cl = r.cl ∧ snH r.cl t.sn) ∨ (¬ snH r.cl t.sn) := by
   by_cases hs : snH r.cl t.sn
   ·left; have h1 := hs.1; have h2 := hs.2; rw [hp] at h1 h2; exact ⟨h1, h2, hs⟩
   ·exact .inr hs
  have hsn : (i < t.sn.length ∧ (t.sn.getD i Sn0).cl = r.cl) → snH r.cl t.sn := fun h => by unfold snH; rw [hp]; exact h
  refine B9 [0, 1, 3, 7, 3, 31, 63, 127, 3, 259, 1023, 2047, 4095] rfl (by decide +kernel) ?_
  refine F9 j5 (F9 j5 (A5 j3 (A5 j3 (A5 j3 (A5 j3 (A5 j3 (A5 j3 (A5 j3 (A5 j3 (A5 j3 (F4 (e := false) j6 (P3 j5 ?_))))))))))))
  refine B3 13 [0, 0, 0, 0, 0, 0, 0, 0, 0, 0, 0, 0, 0] [] j2 (by decide +kernel) trivial ?_
  refine A1 (wF rfl (A2 (B9 [0, 1, 3, 7, 3, 31, 63, 127, 3, 259, 1023, 2047, 4095] rfl (by decide +kernel) ?_)))
  refine F9 j5 (F9 j5 (A5 j3 (A5 j3 (A5 j3 (A5 j3 (A5 j3 (A5 j3 (A5 j3 (A5 j3 (A5 j3 (F4 (e := false) j6 (P3 j5 ?_))))))))))))
  refine B3 13 [0, 0, 0, 0, 0, 0, 0, 0, 0, 0, 0, 0, 0] [] j2 (by decide +kernel) trivial ?_
  refine A1 (wF rfl (A2 (A0 (C7 j5 (E1 (c := false) j5 (C7 j5 (C2 (off := 3) (s := 1) (r := false) j3 kz j3 ?_)))))))
  (apply C6 (v := Ss1) j2; exact Q0; rfl; exact j5)
  (refine G7 rfl rfl hlen1 j3 ?_)
  refine H5 j6 ?_ ?_ <;> intro h10_6
  ·refine B7 (e := true) j6 (C3 j5 (A3 (A1 (wT rfl (A2 (A0 ?_))))))
   (apply F7 (vs := [.int .i64 (exT t now).tm, .int .i64 (exT t now).nx, Sl1, Ss1]) j2; exact Q0; rfl; rfl; exact kb; rfl; exact j3)
   refine N0 (cs := [.int _ _, .int _ _, .int _ _, .int _ _]) j5 ?_
   (apply D6 (u := .agg [.int _ _, .int _ _, _, _]) j3; exact Q0; exact C8; rfl; rfl; rfl; exact Q8; exact kb; rfl; exact j2)
   (apply D6 (u := .agg [.int _ _, .int _ _, .int _ _, .int _ _]) j3; exact Q0; exact C8; rfl; rfl; rfl; exact Q8; exact kb; rfl; exact j2)
   refine A3 (A1 (B1 (A8 (B0 ?_))))
   have e : rqT t now r = (exT t now, bareA 6) := by
    unfold rqT; exact AA (t := exT t now) (show ¬ snH r.cl t.sn by unfold snH; rw [hp]; intro hx; have hx1 := hx.1; have hx2 := hx.2; omega) (by show t.sn.length = 6; omega)
   rw [e]
   refine P4 (tabIds Sl1 Ss1 W1 (exT t now).lk.length) (A6 (A7 rfl (by exact Q0) j2 kb rfl) (A6 (A7 rfl (by exact Q0) j2 kb rfl) A9)) ?_
   refine SnapL.cons _ _ _ _ (H4 (t := exT t now) ?_ ?_ (fun j hj => ?_) (fun a ha => ha)) (SnapL.cons _ _ _ _ (SnapC.agg (.cons _ _ _ _ (.int _ _) (.cons _ _ _ _ (.int _ _) (.cons _ _ _ _ (.int _ _) (.cons _ _ _ _ (.int _ _) .nil))))) SnapL.nil)
   ·exact T1.kl.mono (fun a ha => by have q := hP1 a (.inr (.inl ha)); (simp (disch := (first | omega | assumption)) only [↓appC, ↓updN, ↓updS, ↓app0]))
   ·exact T1.ks.mono (fun a ha => by have q := hP1 a (.inr (.inr (.inl ha))); (simp (disch := (first | omega | assumption)) only [↓appC, ↓updN, ↓updS, ↓app0]))
   ·exact (T1.kw j hj).mono (fun a ha => by have q := hP1 a (.inr (.inr (.inr ⟨j, hj, ha⟩))); (simp (disch := (first | omega | assumption)) only [↓appC, ↓updN, ↓updS, ↓app0]))
  ·refine B7 (e := false) j6 (C3 j5 (A3 (A1 (wF rfl (B2 (C0 (A1 (A2 (A0 ?_)))))))))
   (apply F7 (vs := [.int _ _, .int _ _, .int _ _, .int _ _, .str _]) j2; exact Q0; exact C8; rfl; exact kb; rfl; exact j3)
   refine L4 (o106 (exT t now) r bq.bd hhd2 T1 hkd) rfl j5 ?_
   rintro _ g3 m2 ⟨rfl, S2⟩ hc2 hl2
   obtain ⟨Sl2, Ss2, W2, T2, x1, x2, x3⟩ := S2
   have hO1 : ∀ a, OwnT m1 Sl1 Ss1 W1 (exT t now).lk.length a → 4 ≤ a := fun a o => by have := TV.ownM a o; omega
   have hO : ∀ a, OwnT m1 Sl2 Ss2 W2 (doT (exT t now) r).1.lk.length a → 4 ≤ a := fun a o => (x1 a o).elim (fun e => hO1 a e) (fun e => by omega)
   have p1 : g3 (0 + 1) = some ⟨[[.int .i64 r.cl, .int .i64 r.st, .int .i64 r.kd, .int .i64 r.le, .str r.nm]], 5, 64⟩ := by rw [x2 (0 + 1) (by omega) (fun o => by have := hO1 _ o; omega)]; exact q1
   have p2 : g3 (0 + 1 + 1) = some ⟨[[.int .i64 0, .int .i64 0, .nsl, .nsl]], 4, 35⟩ := by rw [x2 (0 + 1 + 1) (by omega) (fun o => by have := hO1 _ o; omega)]; exact q2
   have p3 : g3 (0 + 1 + 1 + 1) = some ⟨[[.int .i64 0, .int .i64 0, .int .i64 0, .int .i64 0]], 4, 60⟩ := by rw [x2 (0 + 1 + 1 + 1) (by omega) (fun o => by have := hO1 _ o; omega)]; exact q3
   have kid2 : g3 m1 = some ⟨[[.int .i64 (doT (exT t now) r).1.tm, .int .i64 (doT (exT t now) r).1.nx, Sl2, Ss2]], 4, 35⟩ := T2.kid
   have ks2 : IsZ g3 Ss2 (t.sn.map Sn.V) 6 115 := by have := T2.ks; rwa [BG] at this
   have kcl2 := T2.kl.cell
   have kcs2 := ks2.cell
   have hlen2 := lenZ ks2
   rw [List.length_map] at hlen2
   have kz2 := fun (h : 0 < t.sn.length) => kZ ks2 (by rw [List.length_map]; exact h)
   have fz2 := fun (h : 0 < t.sn.length) => T2.fs _ (fpZ ks2 (by rw [List.length_map]; exact h))
   have fo3 : idZ Ss2 < m2 ∧ idZ Ss2 ≠ m1 := by
    unfold idZ
    cases hx : fpV Ss2 with
    | none => exact ⟨by show 0 < m2; omega, by show 0 ≠ m1; omega⟩
    | some a => have := T2.fs a hx; exact ⟨this.1, this.2.1⟩
   have fo4 : ∀ a b x, x ∈ srcIds (slZ Ss2 a b) → x < m2 ∧ x ≠ m1 := fun a b x hx => by rw [idsZ _ _ _ x hx]; exact fo3
   have fo2 := fun (h : 0 < t.sn.length) => hO _ (.inr (.inr (.inl (fpZ ks2 (by rw [List.length_map]; exact h)))))
   refine H3 j6 ?_
   (apply D6 (u := .agg [.int _ _, .int _ _, .int _ _, .int _ _]) j3; exact Q0; exact C8; rfl; rfl; rfl; exact Q8; exact kb; rfl; exact j2)
   refine A3 (A1 (A2 (A0 (C2 (off := 0) (s := 1) (r := false) j3 kz j3 ?_))))
   (apply C6 (v := .int _ _) j2; exact Q0; exact C8; exact j5)
   refine C2 (off := 1) (s := 1) (r := false) j3 kz j3 ?_
   (apply C6 (v := .int _ _) j2; exact Q0; exact C8; exact j5)
   (apply F7 (vs := [.int _ _, .int _ _, .int _ _, .int _ _]) j2; exact Q0; exact C8; rfl; exact kb; rfl; exact j3)
   refine N0 (cs := [.int _ _, .int _ _, .int _ _, .int _ _, .int _ _, .int _ _]) j5 (H3 j6 ?_)
   (apply D6 (u := .agg [.int _ _, .int _ _, .int _ _, .int _ _, .int _ _, .int _ _]) j3; exact Q0; exact C8; rfl; rfl; rfl; exact Q8; exact kb; rfl; exact j2)
   refine A3 (A1 (A2 (A2 (A0 (C7 j5 (A3 (A1 (wF rfl (B9 [0, 0, 2, 0, 14, 31, 0, 64, 255, 0, 512, 0, 3584, 8191, 16383, 32767] rfl (by decide +kernel) ?_)))))))))
   refine X6 (es := []) j4 kz kb rfl rfl j3 (C9 (off := 3) (s := 1) (r := false) j3 kz j3 ?_)
   (apply D5 (v := Ss2) j2; exact Q0; rfl; exact j5)
   refine I2 j5 ?_
   (refine d0 (T3 (v := Ss2) j3 (ks2.mono (fun a ha => by have q := T2.fs a ha; have qa := q.1; have qb := q.2.1; have qc := hO a (.inr (.inr (.inl ha))); (simp (disch := (first | omega | assumption)) only [↓appC, ↓updN, ↓updS, ↓app0]))) rfl (by first | rfl | (rw [List.length_map]; rfl)) (by omega) (by first | omega | (rw [List.length_map]; omega)) (by first | omega | (rw [List.length_map]; omega))) rfl rfl rfl ?_)
   (apply T6 (s' := 48)  rfl rfl; exact Q0; exact j2; exact Q36; exact j2; exact kz; exact Q22; exact Q28; exact Q12; exact Q12; exact j3)
   (apply L8 (vs := [.int _ _, .int _ _, .int _ _, .int _ _, .int _ _, .int _ _]) j2; exact Q0; exact C8; rfl; exact kb; exact j4)
   refine X6 (es := [[.int _ _, .int _ _, .int _ _, .int _ _, .int _ _, .int _ _]]) j4 kz kb rfl rfl j3 ?_
   (apply T6 (s' := 48) (es := [[.int _ _, .int _ _, .int _ _, .int _ _, .int _ _, .int _ _]]) rfl rfl; exact Q0; exact j2; exact Q36; exact j2; exact kz; exact Q22; exact Q28; exact Q12; exact Q12; exact j3)
   refine C9 (off := 3) (s := 1) (r := false) j3 kz j3 ?_
   (apply D5 (v := Ss2) j2; exact Q0; rfl; exact j5)
   refine I2 j5 ?_
   (refine d0 (T3 (v := Ss2) j3 (ks2.mono (fun a ha => by have q := T2.fs a ha; have qa := q.1; have qb := q.2.1; have qc := hO a (.inr (.inr (.inl ha))); (simp (disch := (first | omega | assumption)) only [↓appC, ↓updN, ↓updS, ↓app0]))) rfl (by first | rfl | (rw [List.length_map]; rfl)) (by omega) (by first | omega | (rw [List.length_map]; omega)) (by first | omega | (rw [List.length_map]; omega))) rfl rfl rfl ?_)
   (apply T6 (s' := 48)  rfl rfl; exact Q0; exact j2; exact Q36; exact j2; exact kz; exact Q22; exact Q28; exact Q12; exact Q12; exact j3)
   refine C9 (off := 3) (s := 1) (r := false) j3 kz j3 ?_
   (apply dst (u := .view _ _ _) rfl rfl rfl; exact Q0; exact C8; rfl; rfl; rfl; exact Q8; exact kb; rfl; rfl; rfl)
   refine B3 16 [3, 0, 3, 1, 0, 1, 0, 3, 3, 1, 3, 1, 0, 1, 0, 3] [(0, 2), (0, 4), (0, 6), (5, 6), (0, 7), (2, 7), (4, 7), (5, 7), (0, 10), (5, 10), (7, 10), (8, 10), (0, 12), (5, 12), (7, 12), (8, 12)] j2 (by decide +kernel) ?_ ?_
   ·(first | (focus (simp [ClearL, ids]; done)) | (focus (simp [ClearL, ids]; omega)) | (simp [ClearL, ids, Env.eval, upd]; (repeat' (first | omega | (intro hx; have := fo4 _ _ _ hx; omega) | apply And.intro))))
   refine A1 (A2 (B9 [0, 0, 1, 7] rfl (by decide +kernel) ?_))
   (apply L8 (vs := [.int _ _, .int _ _, _, _]) j2; exact Q0; exact C8; rfl; exact kb; exact j4)
   (apply L8 (vs := [.int _ _, .int _ _, .int _ _, .int _ _]) j2; exact Q0; exact C8; rfl; exact kb; exact j4)
   (apply dst (u := .agg [.int _ _, .int _ _, _, _]) rfl rfl rfl; exact Q0; exact C8; rfl; rfl; rfl; exact Q8; exact kb; rfl; rfl; rfl)
   (apply dst (u := .agg [.int _ _, .int _ _, .int _ _, .int _ _]) rfl rfl rfl; exact Q0; exact C8; rfl; rfl; rfl; exact Q8; exact kb; rfl; rfl; rfl)
   refine B3 4 [3, 3, 1, 1] [(1, 2)] j2 (by decide +kernel) ?_ ?_
   ·(first | (focus (simp [ClearL, ids]; done)) | (focus (simp [ClearL, ids]; omega)) | (simp [ClearL, ids, Env.eval, upd]; (repeat' (first | omega | (intro hx; have := fo4 _ _ _ hx; omega) | apply And.intro))))
   refine A1 (B1 ?_)
   first
   |(have hthere := hsn ⟨by omega, by omega⟩
     obtain ⟨sb, esb, ksb⟩ := ks2.some (by rw [List.length_map]; omega)
     rw [List.length_map] at esb
     have eid : idZ Ss2 = sb := by rw [esb]; rfl
     have fsb : fpV Ss2 = some (idZ Ss2) := by rw [esb]; rfl
     have fzA := fz2 (by omega)
     have fzB := fo2 (by omega)
     have e : rqT t now r = (⟨(doT (exT t now) r).1.tm, (doT (exT t now) r).1.nx, (doT (exT t now) r).1.lk, t.sn.set i ⟨r.cl, r.st, (doT (exT t now) r).2⟩⟩, (doT (exT t now) r).2) := by
      unfold rqT; rw [V1 (t := exT t now) hthere (by show ¬ (t.sn.getD (snP r.cl t.sn) Sn0).st = r.st; rw [hp]; exact h6_10) (by show ¬ (t.sn.getD (snP r.cl t.sn) Sn0).st > r.st; rw [hp]; exact h8_10)]
      show (Tb.mk _ _ _ (t.sn.set (snP r.cl t.sn) _), _) = _; rw [hp]
     rw [e]
     refine P4 (tabIds Sl2 Ss2 W2 (doT (exT t now) r).1.lk.length) (A6 (A7 rfl (by exact Q0) j2 kb rfl) (A6 (A7 rfl (by exact Q0) j2 kb rfl) A9)) ?_
     refine SnapL.cons _ _ _ _ (H4 (t := ⟨(doT (exT t now) r).1.tm, (doT (exT t now) r).1.nx, (doT (exT t now) r).1.lk, t.sn.set i ⟨r.cl, r.st, (doT (exT t now) r).2⟩⟩) ?_ ?_ (fun j hj => ?_) (fun a ha => ha)) (SnapL.cons _ _ _ _ (SnapC.agg (.cons _ _ _ _ (.int _ _) (.cons _ _ _ _ (.int _ _) (.cons _ _ _ _ (.int _ _) (.cons _ _ _ _ (.int _ _) .nil))))) SnapL.nil)
     focus (exact T2.kl.mono (fun a ha => by have q := hO a (.inr (.inl ha)); have q9 := T2.lt (a := a) (.inr (.inl ha)); have q8 : a ≠ idZ Ss2 := fun e => fzA.2.2 (by rw [← e]; exact ha); have q7 : a ≠ m1 := (T2.fl a ha).2; (simp (disch := (first | omega | assumption)) only [↓appC, ↓updN, ↓updS, ↓app0])))
     rotate_left
     focus (exact (T2.kw j hj).mono (fun a ha => by have q := hO a (.inr (.inr (.inr ⟨j, hj, ha⟩))); have q9 := T2.lt (a := a) (.inr (.inr (.inr ⟨j, hj, ha⟩))); have q8 : a ≠ idZ Ss2 := fun e => (T2.fw j a hj ha).2.2.2.1 (by rw [e]; exact fsb); have q7 : a ≠ m1 := (T2.fw j a hj ha).2.1; (simp (disch := (first | omega | assumption)) only [↓appC, ↓updN, ↓updS, ↓app0])))
     refine .inr ⟨idZ Ss2, by rw [List.length_map, List.length_set, eid]; exact esb, ?_⟩
     (simp (disch := (first | omega | assumption)) only [↓appC, ↓updN, ↓updS, ↓app0])
     exact congrArg (fun z => some (Blk.mk z 6 115)) (by rw [List.map_set]; rfl))
   |(have hnot := (show ¬ snH r.cl t.sn by unfold snH; rw [hp]; intro hx; have hx1 := hx.1; have hx2 := hx.2; omega)
     have e : rqT t now r = (⟨(doT (exT t now) r).1.tm, (doT (exT t now) r).1.nx, (doT (exT t now) r).1.lk, insL t.sn i ⟨r.cl, r.st, (doT (exT t now) r).2⟩⟩, (doT (exT t now) r).2) := by
      unfold rqT; rw [Y1 (t := exT t now) hnot (by show ¬ t.sn.length = 6; omega)]
      show (Tb.mk _ _ _ (insL t.sn (snP r.cl t.sn) _), _) = _; rw [hp]
     rw [e]
     refine P4 (tabIds Sl2 (.view (m2 + 1 + 1 + 1 + 1 + 1 + 1) 0 0) W2 (doT (exT t now) r).1.lk.length) (A6 (A7 rfl (by exact Q0) j2 kb rfl) (A6 (A7 rfl (by exact Q0) j2 kb rfl) A9)) ?_
     refine SnapL.cons _ _ _ _ (H4 (t := ⟨(doT (exT t now) r).1.tm, (doT (exT t now) r).1.nx, (doT (exT t now) r).1.lk, insL t.sn i ⟨r.cl, r.st, (doT (exT t now) r).2⟩⟩) ?_ ?_ (fun j hj => ?_) (fun a ha => ha)) (SnapL.cons _ _ _ _ (SnapC.agg (.cons _ _ _ _ (.int _ _) (.cons _ _ _ _ (.int _ _) (.cons _ _ _ _ (.int _ _) (.cons _ _ _ _ (.int _ _) .nil))))) SnapL.nil)
     focus (exact T2.kl.mono (fun a ha => by have q := hO a (.inr (.inl ha)); have q9 := T2.lt (a := a) (.inr (.inl ha)); have q7 : a ≠ m1 := (T2.fl a ha).2; (simp (disch := (first | omega | assumption)) only [↓appC, ↓updN, ↓updS, ↓app0])))
     rotate_left
     focus (exact (T2.kw j hj).mono (fun a ha => by have q := hO a (.inr (.inr (.inr ⟨j, hj, ha⟩))); have q9 := T2.lt (a := a) (.inr (.inr (.inr ⟨j, hj, ha⟩))); have q7 : a ≠ m1 := (T2.fw j a hj ha).2.1; (simp (disch := (first | omega | assumption)) only [↓appC, ↓updN, ↓updS, ↓app0])))
     refine .inr ⟨m2 + 1 + 1 + 1 + 1 + 1 + 1, congrArg (V.view _ 0) ((insLen2 (List.length_map ..) hI.1).trans (by rw [List.length_map, J0 hI.1])), ?_⟩
     (simp (disch := (first | omega | assumption)) only [↓appC, ↓updN, ↓updS, ↓app0])
     exact congrArg (fun z => some (Blk.mk z 6 115)) ((BT (by rw [List.length_map]; exact hI.1) rfl).trans (BY Sn.V t.sn i ⟨r.cl, r.st, (doT (exT t now) r).2⟩).symm))
open Go.V
set_option linter.unusedVariables false
set_option linter.unusedSimpArgs false
set_option maxRecDepth 20000
set_option maxHeartbeats 4000000
theorem exF_nm (tm nx : Int) (l : Lk) : (exF tm nx l).nm = l.nm := by
 unfold exF
 split
 ·cases l.ws <;> rfl
 ·rfl
theorem exF_hd {tm nx : Int} {l : Lk} (h : -1 ≤ l.hd) (hw : ∀ i, i < l.ws.length → 0 ≤ (l.ws.getD i (0, 0)).1) : -1 ≤ (exF tm nx l).hd := by
 unfold exF
 split
 ·cases hl : l.ws with
  | nil => exact Int.le_refl _
  | cons a r => have := hw 0 (by rw [hl]; simp); rw [hl] at this; simp at this; show -1 ≤ a.1; omega
 ·exact h
theorem exF_tail (tm nx : Int) (l : Lk) : (exF tm nx l).ws = l.ws ∨ ∃ a, l.ws = a :: (exF tm nx l).ws := by
 unfold exF
 split
 ·cases l.ws with
  | nil => exact .inl rfl
  | cons a r => exact .inr ⟨a, rfl⟩
 ·exact .inl rfl
theorem AD (tm nx : Int) : ∀ L : List Lk, nx ≤ nxL tm nx L ∧ nxL tm nx L ≤ nx + L.length
 | [] => by unfold nxL; simp
 | l :: r => by
  unfold nxL
  have h1 := AD tm (exN tm nx l) r
  have h2 := exN_bd2 (tm := tm) (nx := nx) (l := l)
  simp only [List.length_cons]
  omega
theorem Bq.of {t : Tb} {now : Int} {r : Rq} (ht : t.OK) (hr : r.OK) (hn : 0 ≤ now ∧ now ≤ 1000000000) (hx : t.nx ≤ 999900) : Bq t now r := by
 obtain ⟨h1, h2, h3, h4, h5, h6⟩ := ht
 have hL : (exT t now).lk.length = t.lk.length := V3 _ _ _
 have hg : ∀ i, i < t.lk.length → (exT t now).lk.getD i Lk0 = exF (max t.tm now) (nxL (max t.tm now) t.nx (t.lk.take i)) (t.lk.getD i Lk0) := fun i hi => N7 hi
 have hws : ∀ i, i < t.lk.length → ∀ k, k < (t.lk.getD i Lk0).ws.length → 1 ≤ ((t.lk.getD i Lk0).ws.getD k (0, 0)).2 ∧ ((t.lk.getD i Lk0).ws.getD k (0, 0)).2 ≤ 1000 := fun i hi k hk => ((h5 i hi).1.2.2.2.2.2.2 k hk).2.2.1
 refine ⟨⟨fun i h0 h => ?_, by omega, fun i hi => ?_, fun j hj i hi => ?_, ?_, ?_, hr.1, hr.2.2.2.1⟩, ?_, by omega, by omega, hws, fun j hj => (h6 j hj).1.1, fun i h0 hi => (h6 i hi).2 h0, h4⟩
 ·rw [hL] at h
  have := (h5 i h).2 h0
  unfold lnm
  rw [hg i h, hg (i - 1) (by omega), exF_nm, exF_nm]
  exact this
 ·rw [hL] at hi
  rw [hg i hi]
  have := (h5 i hi).1.2.2.2.2.1
  rcases exF_tail (max t.tm now) (nxL (max t.tm now) t.nx (t.lk.take i)) (t.lk.getD i Lk0) with e | ⟨a, e⟩
  ·rw [e]; exact this
  ·rw [e, List.length_cons] at this; omega
 ·rw [hL] at hj
  rw [hg j hj] at hi ⊢
  rcases exF_tail (max t.tm now) (nxL (max t.tm now) t.nx (t.lk.take j)) (t.lk.getD j Lk0) with e | ⟨a, e⟩
  ·rw [e] at hi ⊢; exact hws j hj i hi
  ·have := hws j hj (i + 1) (by rw [e, List.length_cons]; omega)
   rw [e] at this
   simpa using this
 ·show 0 ≤ max t.tm now ∧ max t.tm now ≤ 1000000000; omega
 ·have := AD (max t.tm now) t.nx t.lk
  show 0 ≤ nxL (max t.tm now) t.nx t.lk ∧ nxL (max t.tm now) t.nx t.lk ≤ 999990
  omega
 ·omega
theorem OK.hd {t : Tb} (ht : t.OK) : ∀ i, i < t.lk.length → -1 ≤ (t.lk.getD i Lk0).hd := fun i hi => (ht.2.2.2.2.1 i hi).1.2.2.1.1
theorem OK.w4 {t : Tb} (ht : t.OK) : ∀ i, i < t.lk.length → (t.lk.getD i Lk0).ws.length ≤ 100 := fun i hi => by have := (ht.2.2.2.2.1 i hi).1.2.2.2.2.1; omega
theorem OK.hdE {t : Tb} (ht : t.OK) (now : Int) : ∀ i, i < (exT t now).lk.length → -1 ≤ ((exT t now).lk.getD i Lk0).hd := fun i hi => by
 have hL : (exT t now).lk.length = t.lk.length := V3 _ _ _
 rw [hL] at hi
 rw [show (exT t now).lk.getD i Lk0 = exF (max t.tm now) (nxL (max t.tm now) t.nx (t.lk.take i)) (t.lk.getD i Lk0) from N7 hi]
 exact exF_hd (OK.hd ht i hi) (fun k hk => ((ht.2.2.2.2.1 i hi).1.2.2.2.2.2.2 k hk).1.1)
def An0 : An := ⟨0, 0, 0, 0⟩
noncomputable def apA (t : Tb) (now : Int) (r : Rq) : Tb × An × Int := if ¬ (t.OK ∧ r.OK) then (T0, An0, 1) else if ¬ (0 ≤ now ∧ now ≤ 1000000000) then (T0, An0, 4) else if t.nx > 999000 then (t, An0, 13) else ((rqT t now r).1, (rqT t now r).2, 0)
theorem O3 {t : Tb} {now : Int} {r : Rq} (h : ¬ (t.OK ∧ r.OK)) : apA t now r = (T0, An0, 1) := if_pos h
theorem BC {t : Tb} {now : Int} {r : Rq} (h : t.OK ∧ r.OK) (h1 : ¬ (0 ≤ now ∧ now ≤ 1000000000)) : apA t now r = (T0, An0, 4) := by unfold apA; rw [if_neg (fun e => e h), if_pos h1]
theorem Z0 {t : Tb} {now : Int} {r : Rq} (h : t.OK ∧ r.OK) (h1 : 0 ≤ now ∧ now ≤ 1000000000) (h2 : t.nx > 999000) : apA t now r = (t, An0, 13) := by unfold apA; rw [if_neg (fun e => e h), if_neg (fun e => e h1), if_pos h2]
theorem BU {t : Tb} {now : Int} {r : Rq} (h : t.OK ∧ r.OK) (h1 : 0 ≤ now ∧ now ≤ 1000000000) (h2 : ¬ t.nx > 999000) : apA t now r = ((rqT t now r).1, (rqT t now r).2, 0) := by unfold apA; rw [if_neg (fun e => e h), if_neg (fun e => e h1), if_neg h2]
theorem TabV.zero (h : Heap) (n0 n : Nat) : TabV T0 .nsl .nsl (fun _ => .nsl) h n0 n :=
 ⟨.inl ⟨rfl, rfl⟩, .inl ⟨rfl, rfl⟩, fun i hi => absurd hi (Nat.not_lt_zero _), fun a h => (by cases h), fun a h => (by cases h), fun i a hi _ => absurd hi (Nat.not_lt_zero _)⟩
open Go.V
set_option linter.unusedVariables false
set_option linter.unusedSimpArgs false
set_option maxRecDepth 20000
set_option maxHeartbeats 4000000
def WsR (hd : Int) (ws : List Wt) : Prop := (∀ x ∈ ws, (0 ≤ x.1 ∧ x.1 ≤ 255) ∧ x.1 ≠ hd ∧ 1 ≤ x.2 ∧ x.2 ≤ 1000) ∧ ws.Pairwise (fun a b => a.1 ≠ b.1)
theorem wgetD (ws : List Wt) {i : Nat} (h : i < ws.length) : ws.getD i (0, 0) = ws[i] := by simp [List.getD_eq_getElem?_getD, h]
theorem wOK_iff (l : Lk) : (∀ i, i < l.ws.length → wOK l i) ↔ WsR l.hd l.ws := by
 constructor
 ·intro h
  refine ⟨fun x hx => ?_, ?_⟩
  ·obtain ⟨i, hi, rfl⟩ := List.getElem_of_mem hx
   have q := h i hi
   unfold wOK at q
   rw [wgetD _ hi] at q
   exact ⟨q.1, q.2.1, q.2.2.1⟩
  ·refine List.pairwise_iff_getElem.2 fun i j hi hj hij => ?_
   have q := (h j hj).2.2.2 i hij
   rw [wgetD _ hi, wgetD _ hj] at q
   exact q
 ·rintro ⟨h1, h2⟩ i hi
  unfold wOK
  rw [wgetD _ hi]
  have q := h1 _ (List.getElem_mem hi)
  refine ⟨q.1, q.2.1, q.2.2, fun j hj => ?_⟩
  rw [wgetD _ (by omega)]
  exact List.pairwise_iff_getElem.1 h2 j i (by omega) hi hj
theorem WsR.nil (hd : Int) : WsR hd [] := ⟨fun x hx => absurd hx List.not_mem_nil, .nil⟩
theorem T4 {nx : Int} {l : Lk} (h1 : opName l.nm) (h2 : 0 ≤ l.tk ∧ l.tk ≤ nx - 1) (h3 : -1 ≤ l.hd ∧ l.hd ≤ 255) (h4 : 0 ≤ l.ex ∧ l.ex ≤ 2000000000) (h5 : l.ws.length ≤ 4) (h6 : l.hd = -1 → l.ex = 0 ∧ l.ws.length = 0) (h7 : WsR l.hd l.ws) : l.OK nx := ⟨h1, h2, h3, h4, h5, h6, (wOK_iff l).2 h7⟩
theorem LkOK_ws {nx : Int} {l : Lk} (h : l.OK nx) : WsR l.hd l.ws := (wOK_iff l).1 h.2.2.2.2.2.2
theorem P8 {nx ny : Int} {l : Lk} (h : l.OK nx) (e : nx ≤ ny) : l.OK ny := ⟨h.1, ⟨h.2.1.1, by have := h.2.1.2; omega⟩, h.2.2⟩
theorem frL_nm (tm nx : Int) (l : Lk) : (frL tm nx l).nm = l.nm := by unfold frL; cases l.ws <;> rfl
theorem frL_OK {tm nx : Int} {l : Lk} (h : l.OK nx) (ht : 0 ≤ tm ∧ tm ≤ 1000000000) : (frL tm nx l).OK (frN nx l) ∧ ((frL tm nx l).hd = -1 ∨ tm < (frL tm nx l).ex) := by
 have w := LkOK_ws h
 obtain ⟨h1, h2, h3, h4, h5, h6, _⟩ := h
 unfold frL frN
 cases hl : l.ws with
 | nil =>
  refine ⟨?_, .inl rfl⟩
  rw [if_neg (fun e => e rfl)]
  exact T4 h1 h2 ⟨Int.le_refl _, by show (-1 : Int) ≤ 255; decide⟩ ⟨Int.le_refl _, by show (0 : Int) ≤ 2000000000; decide⟩ (Nat.zero_le _) (fun _ => ⟨rfl, rfl⟩) (WsR.nil _)
 | cons a r =>
  rw [hl] at w h5
  obtain ⟨w1, w2⟩ := w
  have wa := w1 a List.mem_cons_self
  rw [if_pos (List.cons_ne_nil a r)]
  simp only [List.length_cons] at h5
  refine ⟨T4 h1 ⟨by show 0 ≤ nx; omega, by show nx ≤ nx + 1 - 1; omega⟩ ⟨by show -1 ≤ a.1; omega, wa.1.2⟩ ⟨by show 0 ≤ tm + a.2; omega, by show tm + a.2 ≤ _; omega⟩ (by show r.length ≤ 4; omega) (fun e => by have e : a.1 = -1 := e; omega) ⟨fun x hx => ?_, (List.pairwise_cons.1 w2).2⟩, .inr (by show tm < tm + a.2; omega)⟩
  have q := w1 x (List.mem_cons_of_mem _ hx)
  exact ⟨q.1, fun e => (List.pairwise_cons.1 w2).1 x hx e.symm, q.2.2⟩
theorem exF_OK {tm nx : Int} {l : Lk} (h : l.OK nx) (ht : 0 ≤ tm ∧ tm ≤ 1000000000) : (exF tm nx l).OK (exN tm nx l) ∧ ¬ gone tm (exF tm nx l) := by
 by_cases g : gone tm l
 ·rw [exF_fr g, exN_fr g]
  obtain ⟨q1, q2⟩ := frL_OK h ht
  refine ⟨q1, fun e => ?_⟩
  unfold gone at e
  rcases q2 with q | q <;> omega
 ·have e1 : exF tm nx l = l := if_neg g
  have e2 : exN tm nx l = nx := if_neg (fun e => g e.1)
  rw [e1, e2]
  exact ⟨h, g⟩
theorem nxL_app (tm : Int) : ∀ (A B : List Lk) (nx : Int), nxL tm nx (A ++ B) = nxL tm (nxL tm nx A) B
 | [], B, nx => rfl
 | l :: r, B, nx => by show nxL tm (exN tm nx l) (r ++ B) = nxL tm (nxL tm (exN tm nx l) r) B; exact nxL_app tm r B _
theorem nxL_le {tm nx : Int} {L : List Lk} (i : Nat) : nx ≤ nxL tm nx (L.take i) ∧ nxL tm nx (L.take i) ≤ nxL tm nx L := by
 have h1 := (AD tm nx (L.take i)).1
 have h2 := (AD tm (nxL tm nx (L.take i)) (L.drop i)).1
 rw [← nxL_app, List.take_append_drop] at h2
 exact ⟨h1, h2⟩
structure LR (t : Tb) : Prop where
 tm : 0 ≤ t.tm ∧ t.tm ≤ 1000000000
 nx : 1 ≤ t.nx
 l4 : t.lk.length ≤ 4
 ok : ∀ i, i < t.lk.length → (t.lk.getD i Lk0).OK t.nx
 srt : Srt t.lk
 ng : ∀ i, i < t.lk.length → ¬ gone t.tm (t.lk.getD i Lk0)
theorem LR.ex {t : Tb} {now : Int} (h : t.OK) (hn : 0 ≤ now ∧ now ≤ 1000000000) : LR (exT t now) := by
 obtain ⟨h1, h2, h3, h4, h5, h6⟩ := h
 have hL : (exT t now).lk.length = t.lk.length := V3 _ _ _
 have hg : ∀ i, i < t.lk.length → (exT t now).lk.getD i Lk0 = exF (max t.tm now) (nxL (max t.tm now) t.nx (t.lk.take i)) (t.lk.getD i Lk0) := fun i hi => N7 hi
 have hT : 0 ≤ max t.tm now ∧ max t.tm now ≤ 1000000000 := by omega
 have key : ∀ i, i < t.lk.length → (exF (max t.tm now) (nxL (max t.tm now) t.nx (t.lk.take i)) (t.lk.getD i Lk0)).OK (nxL (max t.tm now) t.nx t.lk) ∧ ¬ gone (max t.tm now) (exF (max t.tm now) (nxL (max t.tm now) t.nx (t.lk.take i)) (t.lk.getD i Lk0)) := fun i hi => by
  obtain ⟨q1, q2⟩ := exF_OK (tm := max t.tm now) (P8 (h5 i hi).1 (nxL_le (tm := max t.tm now) (L := t.lk) i).1) hT
  refine ⟨P8 q1 ?_, q2⟩
  rw [← K1 hi]
  exact (nxL_le _).2
 refine ⟨hT, by have := (AD (max t.tm now) t.nx t.lk).1; show 1 ≤ nxL (max t.tm now) t.nx t.lk; omega, by rw [hL]; exact h3, fun i hi => ?_, fun i h0 hi => ?_, fun i hi => ?_⟩
 ·rw [hL] at hi; rw [hg i hi]; exact (key i hi).1
 ·rw [hL] at hi
  unfold lnm
  rw [hg i hi, hg (i - 1) (by omega), exF_nm, exF_nm]
  exact (h5 i hi).2 h0
 ·rw [hL] at hi; rw [hg i hi]; exact (key i hi).2
theorem LR.set {t : Tb} (h : LR t) {k : Nat} (hk : k < t.lk.length) {nx : Int} (hx : t.nx ≤ nx) {l : Lk} (hn : l.nm = (t.lk.getD k Lk0).nm) (hl : l.OK nx) (hg : ¬ gone t.tm l) : LR ⟨t.tm, nx, t.lk.set k l, t.sn⟩ := by
 have e : ∀ i, (t.lk.set k l).getD i Lk0 = if i = k then l else t.lk.getD i Lk0 := fun i => BX hk
 have en : ∀ i, lnm (t.lk.set k l) i = lnm t.lk i := fun i => by
  unfold lnm
  rw [e]
  split
  ·next q => rw [hn, q]
  ·rfl
 refine ⟨h.tm, by have := h.nx; show 1 ≤ nx; omega, by show (t.lk.set k l).length ≤ 4; rw [List.length_set]; exact h.l4, fun i hi => ?_, fun i h0 hi => ?_, fun i hi => ?_⟩
 ·have hi : i < (t.lk.set k l).length := hi
  rw [List.length_set] at hi
  show ((t.lk.set k l).getD i Lk0).OK nx
  rw [e]; split
  ·exact hl
  ·exact P8 (h.ok i hi) hx
 ·have hi : i < (t.lk.set k l).length := hi
  rw [List.length_set] at hi
  show ltS (lnm (t.lk.set k l) (i - 1)) (lnm (t.lk.set k l) i)
  rw [en, en]; exact h.srt i h0 hi
 ·have hi : i < (t.lk.set k l).length := hi
  rw [List.length_set] at hi
  show ¬ gone t.tm ((t.lk.set k l).getD i Lk0)
  rw [e]; split
  ·exact hg
  ·exact h.ng i hi
theorem pos_bef (s : ByteArray) : ∀ (L : List Lk) (j : Nat), j < pos s L → ltS (lnm L j) s
 | [], j, h => by simp [pos] at h
 | l :: r, j, h => by
  unfold pos at h
  split at h
  ·next q => cases j with
   | zero => exact q
   | succ j => exact pos_bef s r j (by omega)
  ·exact absurd h (Nat.not_lt_zero _)
theorem pos_at (s : ByteArray) : ∀ (L : List Lk), pos s L < L.length → ¬ ltS (lnm L (pos s L)) s
 | [], h => by simp at h
 | l :: r, h => by
  unfold pos at h ⊢
  split
  ·next q =>
   rw [if_pos q] at h
   exact pos_at s r (by simpa using h)
  ·next q => exact q
theorem lst_tri : ∀ a b : List UInt8, a < b ∨ a = b ∨ b < a
 | [], [] => .inr (.inl rfl)
 | [], b :: s => .inl (List.nil_lt_cons b s)
 | a :: r, [] => .inr (.inr (List.nil_lt_cons a r))
 | a :: r, b :: s => by
  simp only [List.cons_lt_cons_iff]
  rcases Nat.lt_trichotomy a.toNat b.toNat with h | h | h
  ·exact .inl (.inl (UInt8.lt_iff_toNat_lt.2 h))
  ·have e : a = b := UInt8.toNat_inj.1 h
   subst e
   rcases lst_tri r s with q | q | q
   ·exact .inl (.inr ⟨rfl, q⟩)
   ·subst q; exact .inr (.inl rfl)
   ·exact .inr (.inr (.inr ⟨rfl, q⟩))
  ·exact .inr (.inr (.inl (UInt8.lt_iff_toNat_lt.2 h)))
theorem ltS_tri {a b : ByteArray} (h1 : ¬ ltS a b) (h2 : a ≠ b) : ltS b a := by
 have hc : ¬ cb a b < 0 := fun e => h1 (Y3.1 e)
 rw [V2] at h1 ⊢
 have hne : ¬ a.data.toList = b.data.toList := fun e => h2 (cb_eq.1 ((cmpL _ _).2.2 e))
 rcases lst_tri a.data.toList b.data.toList with h | h | h
 ·exact absurd h h1
 ·exact absurd h hne
 ·exact h
theorem LR.ins {t : Tb} (h : LR t) {s : ByteArray} (hh : ¬ hit s t.lk) (h3 : t.lk.length ≤ 3) {nx : Int} (hx : t.nx ≤ nx) {l : Lk} (hn : l.nm = s) (hl : l.OK nx) (hg : ¬ gone t.tm l) : LR ⟨t.tm, nx, insL t.lk (pos s t.lk) l, t.sn⟩ := by
 have hp := Z9 s t.lk
 have e : ∀ i, (insL t.lk (pos s t.lk) l).getD i Lk0 = if i < pos s t.lk then t.lk.getD i Lk0 else if i = pos s t.lk then l else t.lk.getD (i - 1) Lk0 := fun i => Z3 hp i
 have hlen : (insL t.lk (pos s t.lk) l).length = t.lk.length + 1 := J0 hp
 refine ⟨h.tm, by have := h.nx; show 1 ≤ nx; omega, by show (insL t.lk (pos s t.lk) l).length ≤ 4; omega, fun i hi => ?_, fun i h0 hi => ?_, fun i hi => ?_⟩
 ·have hi : i < (insL t.lk (pos s t.lk) l).length := hi
  show ((insL t.lk (pos s t.lk) l).getD i Lk0).OK nx
  rw [e]; split
  ·exact P8 (h.ok i (by omega)) hx
  ·split
   ·exact hl
   ·exact P8 (h.ok (i - 1) (by omega)) hx
 ·have hi : i < (insL t.lk (pos s t.lk) l).length := hi
  show ltS ((insL t.lk (pos s t.lk) l).getD (i - 1) Lk0).nm ((insL t.lk (pos s t.lk) l).getD i Lk0).nm
  rw [e, e]
  by_cases h1 : i < pos s t.lk
  ·rw [if_pos h1, if_pos (by omega)]; exact h.srt i h0 (by omega)
  ·rw [if_neg h1]
   by_cases h2 : i = pos s t.lk
   ·rw [if_pos h2, if_pos (by omega), hn]; exact pos_bef s t.lk (i - 1) (by omega)
   ·rw [if_neg h2, if_neg (by omega)]
    by_cases h4 : i - 1 = pos s t.lk
    ·rw [if_pos h4, hn, h4]
     refine ltS_tri (pos_at s t.lk (by omega)) (fun q => hh ⟨by omega, q⟩)
    ·rw [if_neg h4]; exact h.srt (i - 1) (by omega) (by omega)
 ·have hi : i < (insL t.lk (pos s t.lk) l).length := hi
  show ¬ gone t.tm ((insL t.lk (pos s t.lk) l).getD i Lk0)
  rw [e]; split
  ·exact h.ng i (by omega)
  ·split
   ·exact hg
   ·exact h.ng (i - 1) (by omega)
def DoR (t : Tb) (x : Tb × An) : Prop := LR x.1 ∧ x.1.tm = t.tm ∧ (t.nx ≤ x.1.nx ∧ x.1.nx ≤ t.nx + 1) ∧ x.1.sn = t.sn ∧ ((1 ≤ x.2.kd ∧ x.2.kd ≤ 8) ∧ (0 ≤ x.2.tk ∧ x.2.tk ≤ x.1.nx) ∧ (-1 ≤ x.2.hd ∧ x.2.hd ≤ 255) ∧ (0 ≤ x.2.ex ∧ x.2.ex ≤ 2000000000))
theorem DoR.same {t : Tb} (h : LR t) {a : An} (ha : (1 ≤ a.kd ∧ a.kd ≤ 8) ∧ (0 ≤ a.tk ∧ a.tk ≤ t.nx) ∧ (-1 ≤ a.hd ∧ a.hd ≤ 255) ∧ (0 ≤ a.ex ∧ a.ex ≤ 2000000000)) : DoR t (t, a) := ⟨h, rfl, ⟨Int.le_refl _, by show t.nx ≤ t.nx + 1; omega⟩, rfl, ha⟩
theorem tellR {kd nx : Int} {l : Lk} (h : l.OK nx) (hk : 1 ≤ kd ∧ kd ≤ 8) {ny : Int} (hx : nx ≤ ny) : (1 ≤ (tellL kd l).kd ∧ (tellL kd l).kd ≤ 8) ∧ (0 ≤ (tellL kd l).tk ∧ (tellL kd l).tk ≤ ny) ∧ (-1 ≤ (tellL kd l).hd ∧ (tellL kd l).hd ≤ 255) ∧ (0 ≤ (tellL kd l).ex ∧ (tellL kd l).ex ≤ 2000000000) :=
 ⟨hk, ⟨h.2.1.1, by have := h.2.1.2; show l.tk ≤ ny; omega⟩, h.2.2.1, h.2.2.2.1⟩
theorem bareR {kd nx : Int} (hk : 1 ≤ kd ∧ kd ≤ 8) (hx : 0 ≤ nx) : (1 ≤ (bareA kd).kd ∧ (bareA kd).kd ≤ 8) ∧ (0 ≤ (bareA kd).tk ∧ (bareA kd).tk ≤ nx) ∧ (-1 ≤ (bareA kd).hd ∧ (bareA kd).hd ≤ 255) ∧ (0 ≤ (bareA kd).ex ∧ (bareA kd).ex ≤ 2000000000) :=
 ⟨hk, ⟨Int.le_refl _, hx⟩, ⟨Int.le_refl _, by show (-1 : Int) ≤ 255; decide⟩, ⟨Int.le_refl _, by show (0 : Int) ≤ 2000000000; decide⟩⟩
theorem wix_no {c : Int} : ∀ {ws : List Wt}, ¬ 0 ≤ wix c ws → ∀ x ∈ ws, x.1 ≠ c
 | [], h, x, hx => absurd hx List.not_mem_nil
 | w :: r, h, x, hx => by
  unfold wix at h
  have hg := wix_ge c r
  split at h
  ·omega
  ·next q =>
   have h2 : ¬ 0 ≤ wix c r := by split at h <;> omega
   rcases List.mem_cons.1 hx with e | e
   ·rw [e]; exact q
   ·exact wix_no h2 x e
theorem doT_R {t : Tb} {r : Rq} (h : LR t) (hr : r.OK) : DoR t (doT t r) := by
 have hnx := h.nx
 have htm := h.tm
 have hkd := hr.2.2.1
 have hcl := hr.1
 have hle := hr.2.2.2.1
 have hop := hr.2.2.2.2.1
 have hlk := hr.2.2.2.2.2
 unfold doT
 by_cases k1 : r.kd = 1
 ·rw [if_pos k1]
  have hle1 : 0 < r.le := hlk.2 (.inl k1)
  unfold acqT
  by_cases hh : hit r.nm t.lk
  ·rw [if_pos hh]
   have hk := hh.1
   have hl := h.ok _ hk
   have hg := h.ng _ hk
   unfold acqL
   generalize hlE : t.lk.getD (pos r.nm t.lk) Lk0 = l at hl hg ⊢
   have hw := LkOK_ws hl
   split
   ·exact DoR.same h (tellR hl (by decide) (Int.le_refl _))
   ·next c1 =>
    split
    ·next c2 =>
     have z := hl.2.2.2.2.2.1 c2
     have zw : l.ws = [] := List.length_eq_zero_iff.1 z.2
     refine ⟨h.set hk (by omega) (by rw [hlE]) (T4 hl.1 ⟨by show 0 ≤ t.nx; omega, by show t.nx ≤ t.nx + 1 - 1; omega⟩ ⟨by show -1 ≤ r.cl; omega, hcl.2⟩ ⟨by show 0 ≤ t.tm + r.le; omega, by show t.tm + r.le ≤ _; omega⟩ (by show l.ws.length ≤ 4; omega) (fun e => by have e : r.cl = -1 := e; omega) (by rw [zw]; exact WsR.nil _)) (fun e => by have e : r.cl ≠ -1 ∧ t.tm + r.le ≤ t.tm := e; omega), rfl, ⟨by show t.nx ≤ t.nx + 1; omega, Int.le_refl _⟩, rfl, ⟨Int.le_refl _, by show (1 : Int) ≤ 8; decide⟩, ⟨by show 0 ≤ t.nx; omega, by show t.nx ≤ t.nx + 1; omega⟩, ⟨by show -1 ≤ r.cl; omega, hcl.2⟩, ⟨by show 0 ≤ t.tm + r.le; omega, by show t.tm + r.le ≤ _; omega⟩⟩
    ·next c2 =>
     split
     ·exact DoR.same h (tellR hl (by decide) (Int.le_refl _))
     ·next c3 =>
      refine ⟨h.set hk (Int.le_refl _) (by rw [hlE]) (T4 hl.1 hl.2.1 hl.2.2.1 hl.2.2.2.1 (by show (l.ws ++ [_]).length ≤ 4; rw [List.length_append]; have := hl.2.2.2.2.1; simp only [List.length_cons, List.length_nil]; omega) (fun e => absurd e c2) ⟨fun x hx => ?_, ?_⟩) hg, rfl, ⟨Int.le_refl _, by show t.nx ≤ t.nx + 1; omega⟩, rfl, tellR hl (by decide) (Int.le_refl _)⟩
      ·rcases List.mem_append.1 hx with q | q
       ·exact hw.1 x q
       ·rw [List.mem_singleton.1 q]; exact ⟨hcl, fun e => c1 (.inl e.symm), by show 1 ≤ r.le; omega, by show r.le ≤ 1000; omega⟩
      ·refine List.pairwise_append.2 ⟨hw.2, List.pairwise_singleton _ _, fun a ha b hb => ?_⟩
       rw [List.mem_singleton.1 hb]
       exact wix_no (fun q => c1 (.inr q)) a ha
  ·rw [if_neg hh]
   split
   ·exact DoR.same h (bareR (by decide) (by omega))
   ·next c1 =>
    have := h.l4
    refine ⟨h.ins hh (by omega) (by omega) rfl (T4 hop ⟨by show 0 ≤ t.nx; omega, by show t.nx ≤ t.nx + 1 - 1; omega⟩ ⟨by show -1 ≤ r.cl; omega, hcl.2⟩ ⟨by show 0 ≤ t.tm + r.le; omega, by show t.tm + r.le ≤ _; omega⟩ (Nat.zero_le _) (fun e => by have e : r.cl = -1 := e; omega) (WsR.nil _)) (fun e => by have e : r.cl ≠ -1 ∧ t.tm + r.le ≤ t.tm := e; omega), rfl, ⟨by show t.nx ≤ t.nx + 1; omega, Int.le_refl _⟩, rfl, ⟨Int.le_refl _, by show (1 : Int) ≤ 8; decide⟩, ⟨by show 0 ≤ t.nx; omega, by show t.nx ≤ t.nx + 1; omega⟩, ⟨by show -1 ≤ r.cl; omega, hcl.2⟩, ⟨by show 0 ≤ t.tm + r.le; omega, by show t.tm + r.le ≤ _; omega⟩⟩
 ·rw [if_neg k1]
  by_cases hh : hit r.nm t.lk
  ·rw [if_pos hh]
   have hk := hh.1
   have hl := h.ok _ hk
   have hg := h.ng _ hk
   unfold doL
   generalize hlE : t.lk.getD (pos r.nm t.lk) Lk0 = l at hl hg ⊢
   have hw := LkOK_ws hl
   split
   ·next c1 =>
    have hx := L1 r.cl l.ws
    have hsub : (l.ws.take (wix r.cl l.ws).toNat ++ l.ws.drop ((wix r.cl l.ws).toNat + 1)).Sublist l.ws := by
     have q := List.take_append_drop (wix r.cl l.ws).toNat l.ws
     have q1 : (l.ws.take (wix r.cl l.ws).toNat ++ l.ws.drop ((wix r.cl l.ws).toNat + 1)).Sublist (l.ws.take (wix r.cl l.ws).toNat ++ l.ws.drop (wix r.cl l.ws).toNat) := by
      refine List.Sublist.append (List.Sublist.refl _) ?_
      rw [← List.drop_drop]
      exact List.drop_sublist _ _
     rwa [q] at q1
    refine ⟨h.set hk (Int.le_refl _) (by rw [hlE]) (T4 hl.1 hl.2.1 hl.2.2.1 hl.2.2.2.1 (Nat.le_trans hsub.length_le hl.2.2.2.2.1) (fun e => ⟨(hl.2.2.2.2.2.1 e).1, by have := hsub.length_le; have := (hl.2.2.2.2.2.1 e).2; show (l.ws.take _ ++ l.ws.drop _).length = 0; omega⟩) ⟨fun x hx => hw.1 x (hsub.subset hx), hw.2.sublist hsub⟩) hg, rfl, ⟨Int.le_refl _, by show t.nx ≤ t.nx + 1; omega⟩, rfl, tellR hl (by decide) (Int.le_refl _)⟩
   ·split
    ·exact DoR.same h (tellR hl (by decide) (Int.le_refl _))
    ·next c2 =>
     split
     ·exact DoR.same h (tellR hl (by decide) (Int.le_refl _))
     ·next c3 =>
      split
      ·next c4 =>
       have hle1 : 0 < r.le := hlk.2 (.inr c4)
       refine ⟨h.set hk (Int.le_refl _) (by rw [hlE]) (T4 hl.1 hl.2.1 hl.2.2.1 ⟨by show 0 ≤ t.tm + r.le; omega, by show t.tm + r.le ≤ _; omega⟩ hl.2.2.2.2.1 (fun e => absurd e c2) hw) (fun e => by have e : l.hd ≠ -1 ∧ t.tm + r.le ≤ t.tm := e; omega), rfl, ⟨Int.le_refl _, by show t.nx ≤ t.nx + 1; omega⟩, rfl, ⟨Int.le_refl _, by show (1 : Int) ≤ 8; decide⟩, ⟨hl.2.1.1, by have := hl.2.1.2; show l.tk ≤ t.nx; omega⟩, hl.2.2.1, ⟨by show 0 ≤ t.tm + r.le; omega, by show t.tm + r.le ≤ _; omega⟩⟩
      ·obtain ⟨q1, q2⟩ := frL_OK hl htm
       have hN : t.nx ≤ frN t.nx l ∧ frN t.nx l ≤ t.nx + 1 := by unfold frN; split <;> omega
       refine ⟨h.set hk hN.1 (by rw [frL_nm, hlE]) q1 (fun e => by unfold gone at e; rcases q2 with q | q <;> omega), rfl, hN, rfl, tellR q1 (by decide) (Int.le_refl _)⟩
  ·rw [if_neg hh]; exact DoR.same h (bareR (by decide) (by omega))
open Go.V
set_option linter.unusedVariables false
set_option linter.unusedSimpArgs false
set_option maxRecDepth 20000
set_option maxHeartbeats 4000000
structure SR (L : List Sn) : Prop where
 l6 : L.length ≤ 6
 ok : ∀ i, i < L.length → (L.getD i Sn0).OK
 srt : SrtS L
theorem OK.SR {t : Tb} (h : t.OK) : SR t.sn := ⟨h.2.2.2.1, fun i hi => (h.2.2.2.2.2 i hi).1, h.srtS⟩
theorem OK_of {t : Tb} (h : LR t) (s : SR t.sn) (hx : t.nx ≤ 1000000) : t.OK := ⟨h.tm, ⟨h.nx, hx⟩, h.l4, s.l6, fun i hi => ⟨h.ok i hi, fun h0 => h.srt i h0 hi⟩, fun i hi => ⟨s.ok i hi, fun h0 => s.srt i h0 hi⟩⟩
theorem snP_bef (c : Int) : ∀ (L : List Sn) (j : Nat), j < snP c L → scl L j < c
 | [], j, h => by simp [snP] at h
 | l :: r, j, h => by
  unfold snP at h
  split at h
  ·next q => cases j with
   | zero => exact q
   | succ j => exact snP_bef c r j (by omega)
  ·exact absurd h (Nat.not_lt_zero _)
theorem snP_at (c : Int) : ∀ (L : List Sn), snP c L < L.length → ¬ scl L (snP c L) < c
 | [], h => by simp at h
 | l :: r, h => by
  unfold snP at h ⊢
  split
  ·next q =>
   rw [if_pos q] at h
   exact snP_at c r (by simpa using h)
  ·next q => exact q
theorem getD_setS {L : List Sn} {k i : Nat} {l : Sn} (h : k < L.length) : (L.set k l).getD i Sn0 = if i = k then l else L.getD i Sn0 := by
 simp only [List.getD_eq_getElem?_getD, List.getElem?_set]
 by_cases e : k = i
 ·subst e; simp [h]
 ·rw [if_neg e, if_neg (fun q => e q.symm)]
theorem SR.set {L : List Sn} (h : SR L) {k : Nat} (hk : k < L.length) {s : Sn} (hs : s.OK) (e : s.cl = (L.getD k Sn0).cl) : SR (L.set k s) := by
 have ec : ∀ i, scl (L.set k s) i = scl L i := fun i => by
  unfold scl; rw [getD_setS hk]; split
  ·next q => rw [e, q]
  ·rfl
 refine ⟨by rw [List.length_set]; exact h.l6, fun i hi => ?_, fun i h0 hi => ?_⟩
 ·rw [List.length_set] at hi
  rw [getD_setS hk]; split
  ·exact hs
  ·exact h.ok i hi
 ·rw [List.length_set] at hi
  rw [ec, ec]; exact h.srt i h0 hi
theorem SR.ins {L : List Sn} (h : SR L) {c : Int} (hh : ¬ snH c L) (h5 : L.length ≤ 5) {s : Sn} (hs : s.OK) (e : s.cl = c) : SR (insL L (snP c L) s) := by
 have hp := snP_le c L
 have eg : ∀ i, (insL L (snP c L) s).getD i Sn0 = if i < snP c L then L.getD i Sn0 else if i = snP c L then s else L.getD (i - 1) Sn0 := fun i => Z3 hp i
 have hlen : (insL L (snP c L) s).length = L.length + 1 := J0 hp
 refine ⟨by omega, fun i hi => ?_, fun i h0 hi => ?_⟩
 ·rw [eg]; split
  ·exact h.ok i (by omega)
  ·split
   ·exact hs
   ·exact h.ok (i - 1) (by omega)
 ·show ((insL L (snP c L) s).getD (i - 1) Sn0).cl < ((insL L (snP c L) s).getD i Sn0).cl
  rw [eg, eg]
  by_cases h1 : i < snP c L
  ·rw [if_pos h1, if_pos (by omega)]; exact h.srt i h0 (by omega)
  ·rw [if_neg h1]
   by_cases h2 : i = snP c L
   ·rw [if_pos h2, if_pos (by omega), e]; exact snP_bef c L (i - 1) (by omega)
   ·rw [if_neg h2, if_neg (by omega)]
    by_cases h4 : i - 1 = snP c L
    ·rw [if_pos h4, e, h4]
     have q1 := snP_at c L (by omega)
     have q2 : ¬ (L.getD (snP c L) Sn0).cl = c := fun q => hh ⟨by omega, q⟩
     unfold scl at q1
     omega
    ·rw [if_neg h4]; exact h.srt (i - 1) (by omega) (by omega)
structure RqR (t : Tb) (now : Int) (x : Tb × An) : Prop where
 lr : LR x.1
 sr : SR x.1.sn
 tm : x.1.tm = max t.tm now
 nx : t.nx ≤ x.1.nx ∧ x.1.nx ≤ t.nx + 5
 an : (1 ≤ x.2.kd ∧ x.2.kd ≤ 8) ∧ (0 ≤ x.2.tk ∧ x.2.tk ≤ 1000000) ∧ (-1 ≤ x.2.hd ∧ x.2.hd ≤ 255) ∧ (0 ≤ x.2.ex ∧ x.2.ex ≤ 2000000000)
theorem rqT_R {t : Tb} {now : Int} {r : Rq} (ht : t.OK) (hr : r.OK) (hn : 0 ≤ now ∧ now ≤ 1000000000) (hx : t.nx ≤ 999900) : RqR t now (rqT t now r) := by
 have hE := LR.ex ht hn
 have hS : SR (exT t now).sn := (OK.SR ht : SR t.sn)
 have hN : t.nx ≤ (exT t now).nx ∧ (exT t now).nx ≤ t.nx + 4 := by
  have q := AD (max t.tm now) t.nx t.lk
  have := ht.2.2.1
  show t.nx ≤ nxL (max t.tm now) t.nx t.lk ∧ nxL (max t.tm now) t.nx t.lk ≤ t.nx + 4
  omega
 have hM : (exT t now).tm = max t.tm now := rfl
 have hnx := ht.2.1.1
 have bare : ∀ kd : Int, 1 ≤ kd ∧ kd ≤ 8 → RqR t now (exT t now, bareA kd) := fun kd hk => ⟨hE, hS, hM, by show t.nx ≤ (exT t now).nx ∧ (exT t now).nx ≤ t.nx + 5; omega, bareR hk (by decide)⟩
 unfold rqT reqT
 generalize exT t now = u at hE hS hN hM bare ⊢
 split
 ·next c1 =>
  have q := (hS.ok _ c1.1.1).2.2
  exact ⟨hE, hS, hM, by show t.nx ≤ u.nx ∧ u.nx ≤ t.nx + 5; omega, q⟩
 ·next c1 =>
  split
  ·exact bare 7 (by decide)
  ·next c2 =>
   split
   ·exact bare 6 (by decide)
   ·next c3 =>
    obtain ⟨d1, d2, d3, d4, d5⟩ := doT_R hE hr
    have hso : Sn.OK ⟨r.cl, r.st, (doT u r).2⟩ := ⟨hr.1, hr.2.1, d5.1, ⟨d5.2.1.1, by have := d5.2.1.2; show (doT u r).2.tk ≤ 1000000; omega⟩, d5.2.2.1, d5.2.2.2⟩
    refine ⟨⟨d1.tm, d1.nx, d1.l4, d1.ok, d1.srt, d1.ng⟩, ?_, by show (doT u r).1.tm = _; rw [d2, hM], by show t.nx ≤ (doT u r).1.nx ∧ (doT u r).1.nx ≤ t.nx + 5; omega, ⟨d5.1, ⟨d5.2.1.1, by have := d5.2.1.2; show (doT u r).2.tk ≤ 1000000; omega⟩, d5.2.2.1, d5.2.2.2⟩⟩
    show SR (if snH r.cl u.sn then u.sn.set (snP r.cl u.sn) ⟨r.cl, r.st, (doT u r).2⟩ else insL u.sn (snP r.cl u.sn) ⟨r.cl, r.st, (doT u r).2⟩)
    split
    ·next c4 => exact hS.set c4.1 hso c4.2.symm
    ·next c4 => exact hS.ins c4 (by have := hS.l6; have : ¬ u.sn.length = 6 := fun e => c3 ⟨c4, e⟩; omega) hso rfl
theorem RqR.OK {t : Tb} {now : Int} {x : Tb × An} (h : RqR t now x) (hx : t.nx ≤ 999995) : x.1.OK := OK_of h.lr h.sr (by have := h.nx; omega)
end Go.Proofs.Ytknnniaoboaghaa
