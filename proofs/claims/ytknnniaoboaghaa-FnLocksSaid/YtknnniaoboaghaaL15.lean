import Derived.Test.YtknnniaoboaghaaL14
namespace Go.Proofs.Ytknnniaoboaghaa
open Go.V
set_option linter.unusedVariables false
set_option linter.unusedSimpArgs false
set_option maxRecDepth 20000
set_option maxHeartbeats 4000000
theorem rowsRq (L : List Rq) : rowsV (L.map Rq.T) = L.map Rq.V := by unfold rowsV; rw [List.map_map]; rfl
theorem rowsI (L : List Int) : rowsV (L.map iT) = L.map iV := by unfold rowsV; rw [List.map_map]; rfl
def tabA (t : Tb) : V := .agg [.int .i64 t.tm, .int .i64 t.nx, .sl true true (t.lk.map (Lk.T true)), .sl true true (t.sn.map Sn.T)]
open Go.V
set_option linter.unusedVariables false
set_option linter.unusedSimpArgs false
set_option maxRecDepth 20000
set_option maxHeartbeats 4000000
theorem openTup {f : FuncId} {az res : List A} {xs : List V} {wr : List (Nat × Option Blk)} {m : Nat} {ids : List Nat} (ho : V.Open En f (az.map (A.toV false)) (fun _ => none) 0 (.tup xs) wr m) (hne : res.length ≠ 1) (hs : SnapL (app wr (fun _ => none)) ids true xs res) : Pure En f az res := by
 unfold V.Open at ho
 unfold V.Pure
 refine ⟨ho.1.1, fun I w vs hI hgl hal har => ?_⟩
 have hg0 : V.Good En ⟨fun _ => none, I, w.heap.size, w⟩ (fun _ => none) := ⟨fun id b h => by simp at h, fun id id' b b' p p' h => by simp at h, hI, fun id b p h => by simp at h, fun id p h => by simp at h, Nat.le_refl _, hgl⟩
 refine Calls.mono (ho.2 ⟨fun _ => none, I, w.heap.size, w⟩ vs hg0 (fun _ _ => rfl) (by rw [List.length_map]; exact hal) (fun i x u h1 h2 => ?_)) ?_
 ·rw [List.getElem?_map] at h1
  cases ha : az[i]? with
  | none => rw [ha] at h1; cases h1
  | some a => rw [ha] at h1; cases h1; exact ((har i a u ha h2).mono (fun b hb => ⟨hb, by simp⟩) (fun _ _ => rfl)).toV
 ·rintro e w' ⟨u, c', rfl, rfl, hxt, hg', hd', hv⟩
  have hB : c'.B = w.heap.size := hxt.B
  have hlive : ∀ b, Seen c' (app wr (fun _ => none)) true b → w.heap.size ≤ b ∧ b < c'.w.heap.size := by
   rintro b ⟨h4 | ⟨id, y, p, _, h5, rfl⟩, h6⟩
   ·exact ⟨by have := h6 rfl; omega, hg'.imm b h4⟩
   ·exact ⟨by have := h6 rfl; omega, (hg'.own id p h5).2⟩
  obtain ⟨us, rfl, hul, hus⟩ := hv.tup_inv
  have hsp := hs.spec
  refine ⟨_, rfl, hxt.below, .tup res us hne (by rw [← hsp.1, hul]) fun i a v ha hv2 => ?_⟩
  have hlt : i < xs.length := by rw [hsp.1]; exact (List.getElem?_eq_some_iff.1 ha).1
  exact ((hsp.2 i xs[i] a (by simp [hlt]) ha).ok hg' (hus i xs[i] v (by simp [hlt]) hv2)).mono hlive (fun _ _ => rfl)
def Nl := (Nat → Bool) × Bool × Bool
abbrev Tb.M (t : Tb) (x : Nl) : List V.T := t.N x.1 x.2.1 x.2.2
abbrev NilM (t : Tb) (x : Nl) : Prop := NilOK t x.1 x.2.1 x.2.2
theorem p27N (t : Tb) (x : Nl) (hN : NilM t x) (now : Int) (r : Rq) : ∃ y : Nl, NilM (apA t now r).1 y ∧ Pure En 27 [.agg (t.M x), .one (.int .i64 now), .agg r.T] [.agg ((apA t now r).1.M y), .agg (apA t now r).2.1.T, .one (.int .i64 (apA t now r).2.2)] := by
 obtain ⟨⟨v, wr, m⟩, ⟨Sl, Ss, W, hv, T, _, _⟩, ho⟩ := o27N t x.1 x.2.1 x.2.2 hN now r (h := fun _ => none) (n := 0)
 dsimp only at hv T ho
 subst hv
 exact ⟨(fun i => isV (W i), isV Sl, isV Ss), T.nilOK, openTup (ids := tabIds Sl Ss W (apA t now r).1.lk.length) ho (by simp) (SnapL.cons _ _ _ _ (BO T (fun _ h => h)) (SnapL.cons _ _ _ _ (SnapC.agg (.cons _ _ _ _ (.int _ _) (.cons _ _ _ _ (.int _ _) (.cons _ _ _ _ (.int _ _) (.cons _ _ _ _ (.int _ _) .nil))))) (SnapL.cons _ _ _ _ (.one _ _ (.int _ _)) .nil)))⟩
theorem eqAn2 (a : An) : eqV En.P 10000 60 (.agg a.V) (.agg a.V) = some true := by
 have h : eqV En.P 10000 60 (.agg a.V) (.agg a.V) = some ((a.kd == a.kd) && ((a.tk == a.tk) && ((a.hd == a.hd) && ((a.ex == a.ex) && true)))) := by kernel_rfl
 rw [h]; simp
theorem s21 (nn : Bool) (B : List Int) (hB : bytes B) (hL : B.length ≤ 1048577) : ∃ x : List Rq × List Int, Reqs x.1 x.2 ∧ Pure En 21 [.one (.sl nn (B.map bT))] [.one (.sl true (x.1.map Rq.T))] ∧ Pure En 22 [.one (.sl nn (B.map bT))] [.one (.sl true (x.2.map iT))] := by
 obtain ⟨sd, hs, O1⟩ := o13 false nn B (h := fun _ => none) (n := 0)
 obtain ⟨⟨v, wr, m⟩, ⟨L, Tm, bq, bt, hv, hR1, hR2, hl, gq, gt, hb, hfr⟩, O2⟩ := o64 false nn B hB hL 0 sd (by decide) hs (id := 0) (h := app [(0, some (srcB false nn B 0 sd))] (fun _ => none)) (n := 0 + 1) (by decide) rfl
 dsimp only at hv gq gt O2
 subst hv
 refine ⟨(L, Tm), ⟨hR1, hR2, hl⟩, ?_, ?_⟩
 ·refine Pure.of_wp Try.func21 rfl kb ?_
  refine A2 (A0 (Z4 j5 (A3 (A1 (A2 (A0 (J7 j5 (I7 O1 rfl rfl rfl rfl rfl rfl (I7 O2 rfl rfl rfl rfl rfl rfl (rmT j5 (T8 j6 (T8 j6 ?_))))))))))))
  refine P9 j5 (P9 j5 (A3 (A1 (A2 (A0 (J6 j5 (P9 j5 (A3 (A1 (B1 (P4 [bq] (A6 rfl A9) ?_)))))))))))
  exact SnapL.cons _ _ _ _ (.one _ _ (H8 (L.map Rq.T) (List.mem_singleton.2 rfl) (by first | exact gq | rfl) (rowsRq L).symm (by first | rfl | exact (List.length_map ..).symm))) SnapL.nil
 ·refine Pure.of_wp Try.func22 rfl kb ?_
  refine A2 (A0 (Z4 j5 (A3 (A1 (A2 (A0 (J7 j5 (I7 O1 rfl rfl rfl rfl rfl rfl (I7 O2 rfl rfl rfl rfl rfl rfl (rmT j5 (T8 j6 (T8 j6 ?_))))))))))))
  refine P9 j5 (P9 j5 (A3 (A1 (A2 (A0 (J6 j5 (P9 j5 (A3 (A1 (B1 (P4 [bt] (A6 rfl A9) ?_)))))))))))
  exact SnapL.cons _ _ _ _ (.one _ _ (H8 (Tm.map iT) (List.mem_singleton.2 rfl) (by first | exact gt | rfl) (rowsI Tm).symm (by first | rfl | exact (List.length_map ..).symm))) SnapL.nil
theorem s100 (b : Bool) (L : List Rq) (h : L.length ≤ 30) : Pure En 100 [.one (.sl b (L.map Rq.T))] [.one (.bool false)] := by
 have hl : (L.map Rq.T).length = L.length := List.length_map ..
 refine Pure.of_wp Try.func100 rfl kb ?_
 refine A2 (A0 (C3 j5 (A3 (A1 (A2 (A0 (J7 j5 (G7 rfl rfl rfl j3 ?_))))))))
 refine V9 j6 (fun h => absurd h (by omega)) ?_
 intro h1_2
 refine C3 j5 (A3 (A1 (B1 ?_)))
 exact fin rfl rfl
theorem s101 (b : Bool) (L : List Int) (h : L.length ≤ 30) : Pure En 101 [.one (.sl b (L.map iT))] [.one (.bool false)] := by
 have hl : (L.map iT).length = L.length := List.length_map ..
 refine Pure.of_wp Try.func101 rfl kb ?_
 refine A2 (A0 (C3 j5 (A3 (A1 (A2 (A0 (J7 j5 (G7 rfl rfl rfl j3 ?_))))))))
 refine V9 j6 (fun h => absurd h (by omega)) ?_
 intro h1_2
 refine C3 j5 (A3 (A1 (B1 ?_)))
 exact fin rfl rfl
theorem s103 (r : Rq) (h : r.OK) : Pure En 103 [.agg r.T] [.one (.bool false)] := by
 refine Pure.of_wp Try.func103 rfl kb ?_
 refine A2 (A0 (K7 (u := .agg [.int _ _, .int _ _, .int _ _, .int _ _, .str _]) j3 rfl j3 (C3 j5 (A3 (A1 (A2 (A0 ?_)))))))
 (apply F7 (vs := [.int _ _, .int _ _, .int _ _, .int _ _, .str _]) j2; exact Q0; rfl; rfl; exact kb; rfl; exact j3)
 refine F3 (p26 r) rfl j5 ?_ ?_ <;> intro h1_1
 ·refine E1 (c := true) j5 (C3 j5 (A3 (A1 (B1 ?_))))
  first | exact fin rfl rfl | exact absurd h (by assumption)
 ·refine E1 (c := false) j5 (C3 j5 (A3 (A1 (B1 ?_))))
  first | exact fin rfl rfl | exact absurd h (by assumption)
theorem s105 (x : Int) (h : 0 ≤ x ∧ x ≤ 1000000000) : Pure En 105 [.one (.int .i64 x)] [.one (.bool false)] := by
 refine Pure.of_wp Try.func105 rfl kb ?_
 refine A2 (A0 (C3 j5 (A3 (A1 (A2 (A0 (B5 j5 ?_)))))))
 refine F3 (s59 x) rfl j5 ?_ ?_ <;> intro h1_1
 ·refine E1 (c := true) j5 (C3 j5 (A3 (A1 (B1 ?_))))
  first | exact fin rfl rfl | exact absurd h (by assumption)
 ·refine E1 (c := false) j5 (C3 j5 (A3 (A1 (B1 ?_))))
  first | exact fin rfl rfl | exact absurd h (by assumption)
theorem o127 (b : Bool) (L : List Rq) (hL : L.length ≤ 30) (hk : ∀ x ∈ L, x.OK) {h : Heap} {n : Nat} : V.Open En 127 [.sl false b (L.map Rq.T), .clo 103 []] h n (.int .i64 (-1)) [] n := by
 have hl : (L.map Rq.T).length = L.length := List.length_map ..
 refine V.Open.of_wp Try.func127 rfl kb ?_
 refine A2 (A0 (D1 j5 (A3 (A1 (A2 (A2 (A0 (J7 j5 (G7 rfl rfl rfl j3 (B5 j5 (A3 (A1 ?_))))))))))))
 refine B4 (F0 ?_)
 refine E4 (fun (i : Nat) => [.sl false b (L.map Rq.T), .clo 103 [], .unk, .unk, .unk, .unk, .unk, .int .i64 (L.map Rq.T).length, .int .i64 i]) (fun (i : Nat) => h) (fun (i : Nat) => n) (fun (i : Nat) => i ≤ L.length) (fun (i : Nat) => L.length - i) 0 ?_ ?_ ?_ ?_ ?_
 ·exact Nat.zero_le _
 ·(repeat first | exact LE.nil _ | refine LE.unk _ _ ?_ | refine LE.eq _ _ _ rfl ?_)
 ·exact LessH.refl _
 ·exact Nat.le_refl _
 intro i hI ih
 refine E8 (A2 (A0 ?_))
 refine H9 j6 ?_ ?_ <;> intro h2_0
 ·refine A3 (A1 (A2 (wT rfl (B2 (A1 (A2 (B4 (A2 (A0 (B5 j5 (D1 j5 (A3 ?_))))))))))))
  refine A1 (A2 (A0 (rmC j5 (J7 j5 (B5 j5 ?_)))))
  (apply K8 j4; exact Q4; (first | rfl | assumption | (exact D8 Rq.T Rq0 (by omega))); exact j4)
  refine N4 (vs := [.int _ _, .int _ _, .int _ _, .int _ _, .str _]) j3 kb j4 (AS (s103 (L.getD i Rq0) (hk _ (I8 (by omega)))) rfl j5 ?_)
  refine A3 (A1 (wF rfl (B2 (C0 (A1 (A0 (D0 j3 ?_ ?_ j3 ?_)))))))
  ·exact Q4
  ·exact Q4
  refine B5 j5 (A3 (E3 ?_))
  exact I4 (ih (i + 1) (by omega) (by omega)) (by (repeat first | exact LE.nil _ | refine LE.unk _ _ ?_ | refine LE.eq _ _ _ rfl ?_)) (LessH.refl _) (Nat.le_refl _)
 ·refine A3 (A1 (A2 (wF rfl (E5 (E6 (D2 (C5 (A1 (A2 (A0 (D1 j5 (A3 ?_))))))))))))
  refine A1 (B1 ?_)
  exact F2 rfl rfl (fun _ _ _ e => e) (Nat.le_refl _)
theorem o102 (b : Bool) (L : List Rq) (hL : L.length ≤ 30) (hk : ∀ x ∈ L, x.OK) {h : Heap} {n : Nat} : V.Open En 102 [.sl false b (L.map Rq.T), .clo 103 []] h n (.bool false) [] n := by
 refine V.Open.of_wp Try.func102 rfl kb ?_
 refine A2 (A0 (C3 j5 (A3 (A1 (A2 (A0 (J7 j5 (rmC j5 (I7 (o127 b L hL hk) rfl rfl rfl rfl rfl rfl ?_)))))))))
 refine rge j6 (fun h => absurd h (by omega)) ?_
 intro h1_3
 refine C3 j5 (A3 (A1 (B1 ?_)))
 exact F2 rfl rfl (fun _ _ _ e => e) (Nat.le_refl _)
theorem o128 (b : Bool) (L : List Int) (hL : L.length ≤ 30) (hk : ∀ x ∈ L, (0 ≤ x ∧ x ≤ 1000000000)) {h : Heap} {n : Nat} : V.Open En 128 [.sl false b (L.map iT), .clo 105 []] h n (.int .i64 (-1)) [] n := by
 have hl : (L.map iT).length = L.length := List.length_map ..
 refine V.Open.of_wp Try.func128 rfl kb ?_
 refine A2 (A0 (D1 j5 (A3 (A1 (A2 (A2 (A0 (J7 j5 (G7 rfl rfl rfl j3 (B5 j5 (A3 (A1 ?_))))))))))))
 refine B4 (F0 ?_)
 refine E4 (fun (i : Nat) => [.sl false b (L.map iT), .clo 105 [], .unk, .unk, .unk, .unk, .unk, .int .i64 (L.map iT).length, .int .i64 i]) (fun (i : Nat) => h) (fun (i : Nat) => n) (fun (i : Nat) => i ≤ L.length) (fun (i : Nat) => L.length - i) 0 ?_ ?_ ?_ ?_ ?_
 ·exact Nat.zero_le _
 ·(repeat first | exact LE.nil _ | refine LE.unk _ _ ?_ | refine LE.eq _ _ _ rfl ?_)
 ·exact LessH.refl _
 ·exact Nat.le_refl _
 intro i hI ih
 refine E8 (A2 (A0 ?_))
 refine H9 j6 ?_ ?_ <;> intro h2_0
 ·refine A3 (A1 (A2 (wT rfl (B2 (A1 (A2 (B4 (A2 (A0 (B5 j5 (D1 j5 (A3 ?_))))))))))))
  refine A1 (A2 (A0 (rmC j5 (J7 j5 (B5 j5 ?_)))))
  (apply K8 j4; exact Q4; (first | rfl | assumption | (exact D8 iT 0 (by omega))); exact j4)
  refine rlic (v := .int _ _) j8 (AS (s105 (L.getD i 0) (hk _ (I8 (by omega)))) rfl j5 ?_)
  refine A3 (A1 (wF rfl (B2 (C0 (A1 (A0 (D0 j3 ?_ ?_ j3 ?_)))))))
  ·exact Q4
  ·exact Q4
  refine B5 j5 (A3 (E3 ?_))
  exact I4 (ih (i + 1) (by omega) (by omega)) (by (repeat first | exact LE.nil _ | refine LE.unk _ _ ?_ | refine LE.eq _ _ _ rfl ?_)) (LessH.refl _) (Nat.le_refl _)
 ·refine A3 (A1 (A2 (wF rfl (E5 (E6 (D2 (C5 (A1 (A2 (A0 (D1 j5 (A3 ?_))))))))))))
  refine A1 (B1 ?_)
  exact F2 rfl rfl (fun _ _ _ e => e) (Nat.le_refl _)
theorem o104 (b : Bool) (L : List Int) (hL : L.length ≤ 30) (hk : ∀ x ∈ L, (0 ≤ x ∧ x ≤ 1000000000)) {h : Heap} {n : Nat} : V.Open En 104 [.sl false b (L.map iT), .clo 105 []] h n (.bool false) [] n := by
 refine V.Open.of_wp Try.func104 rfl kb ?_
 refine A2 (A0 (C3 j5 (A3 (A1 (A2 (A0 (J7 j5 (rmC j5 (I7 (o128 b L hL hk) rfl rfl rfl rfl rfl rfl ?_)))))))))
 refine rge j6 (fun h => absurd h (by omega)) ?_
 intro h1_3
 refine C3 j5 (A3 (A1 (B1 ?_)))
 exact F2 rfl rfl (fun _ _ _ e => e) (Nat.le_refl _)
theorem s65 (L : List Rq) (Tm : List Int) (b1 b2 : Bool) (hR : Reqs L Tm) : Pure En 65 [.one (.sl b1 (L.map Rq.T)), .one (.sl b2 (Tm.map iT))] [.one (.int .i64 0)] := by
 have hl1 : (L.map Rq.T).length = L.length := List.length_map ..
 have hl2 : (Tm.map iT).length = Tm.length := List.length_map ..
 have hl3 := hR.2.2.1
 have hl4 := hR.2.2.2
 refine Pure.of_wp Try.func65 rfl kb ?_
 refine A2 (A0 (D1 j5 (A3 (A1 (A2 (B4 (A2 (A0 (J7 j5 (AS (s100 b1 L hl3) rfl j5 (C7 j5 (J7 j5 ?_))))))))))))
 refine AS (s101 b2 Tm (by omega)) rfl j5 ?_
 refine B7 (e := false) j6 (C3 j5 (A3 (A1 (wF rfl (A2 (A0 (J7 j5 (G7 rfl rfl rfl j3 ?_))))))))
 refine V9 j6 (fun h => absurd h (by omega)) ?_
 intro h3_2
 refine C7 j5 (J7 j5 (G7 rfl rfl rfl j3 (J7 j5 (G7 rfl rfl rfl j3 ?_))))
 refine rne j6 (fun h => absurd h (by omega)) ?_
 intro h3_8
 refine B7 (e := false) j6 (C3 j5 (A3 (A1 (wF rfl (A2 (A0 (J7 j5 ?_)))))))
 refine I7 (o102 b1 L hl3 (fun x hx => (hR.1 x hx).1)) rfl rfl rfl rfl rfl rfl ?_
 refine C7 j5 (J7 j5 ?_)
 refine I7 (o104 b2 Tm (by omega) (fun x hx => by have := hR.2.1 x hx; omega)) rfl rfl rfl rfl rfl rfl ?_
 refine B7 (e := false) j6 (C3 j5 (A3 (A1 (wF rfl (B2 (C0 (A1 (A2 (A0 (D1 j5 (A3 (A1 ?_))))))))))))
 refine B1 ?_
 exact fin rfl rfl
theorem s34 (L : List An) (b1 b2 : Bool) (hL : L.length ≤ 1000) : Pure En 34 [.one (.sl b1 (L.map An.T)), .one (.sl b2 (L.map An.T))] [.one (.bool true)] := by
 have hl : (L.map An.T).length = L.length := List.length_map ..
 refine Pure.of_wp Try.func34 rfl kb ?_
 refine A2 (A0 (C3 j5 (A3 (A1 (A2 (A2 (A0 (J7 j5 (G7 rfl rfl rfl j3 (J7 j5 (G7 rfl rfl rfl j3 ?_)))))))))))
 refine rne j6 (fun h => absurd h (by omega)) ?_
 intro h1_4
 refine A3 (A1 (wF rfl (B2 (A1 (A2 (A2 (A0 (D1 j5 (A3 (A1 (B4 (F0 ?_))))))))))))
 refine loopGo0 (fun (i : Nat) => [.sl false b1 (L.map An.T), .sl false b2 (L.map An.T), .unk, .unk, .unk, .int .i64 i]) (fun (i : Nat) => i ≤ L.length) (fun (i : Nat) => L.length - i) 0 ?_ ?_ ?_
 ·exact Nat.zero_le _
 ·(repeat first | exact LE.nil _ | refine LE.unk _ _ ?_ | refine LE.eq _ _ _ rfl ?_)
 intro i hI ih
 refine E8 (A2 (A2 (A0 (B5 j5 (J7 j5 (G7 rfl rfl rfl j3 ?_))))))
 refine H9 j6 ?_ ?_ <;> intro h4_3
 ·refine A3 (A1 (wT rfl (B2 (A1 (A2 (B4 (A2 (B9 [0, 0, 3, 7, 0, 0, 48, 112, 255] rfl (by decide +kernel) ?_))))))))
  refine dmL j5 (I2 j5 ?_)
  (apply O4 j4; exact Q4; (first | rfl | assumption | (exact D8 An.T ⟨0, 0, 0, 0⟩ (by omega))); exact j4)
  refine dlir (vs := [.int _ _, .int _ _, .int _ _, .int _ _]) j3 kb j4 (dmL j5 (I2 j5 ?_))
  (apply O4 j4; exact Q4; (first | rfl | assumption | (exact D8 An.T ⟨0, 0, 0, 0⟩ (by omega))); exact j4)
  refine dlir (vs := [.int _ _, .int _ _, .int _ _, .int _ _]) j3 kb j4 ?_
  refine dSneq j3 (by kernel_rfl) (eqAn2 _) j3 (fun h => absurd h (by decide)) ?_
  intro h6_8
  refine B3 9 [0, 0, 0, 0, 0, 0, 0, 0, 0] [] j2 (by decide +kernel) trivial ?_
  refine A1 (wF rfl (B2 (C0 (A1 (A0 (B5 j5 (D0 j3 ?_ ?_ j3 ?_)))))))
  ·exact Q4
  ·exact Q4
  refine D1 j5 (A3 (E3 ?_))
  exact wlN (ih (i + 1) (by omega) (by omega)) (by (repeat first | exact LE.nil _ | refine LE.unk _ _ ?_ | refine LE.eq _ _ _ rfl ?_))
 ·refine A3 (A1 (wF rfl (E5 (E6 (D2 (C5 (A1 (A2 (A0 (C3 j5 (A3 (A1 ?_))))))))))))
  refine B1 ?_
  exact fin rfl rfl
open Go.V
set_option linter.unusedVariables false
set_option linter.unusedSimpArgs false
set_option maxRecDepth 20000
set_option maxHeartbeats 4000000
section rules
variable {E : Env} {sz : Nat} {ops : Array Oper} {o : Oper} {l : List Oper} {t : Nat → V} {h : Heap} {n : Nat} {R : (Nat → V) → Heap → Nat → Prop} {z : Operand} {bl : List Nat} {pre : List Ef}
theorem dopM {tys : Array TypeId} {f : FuncId} {args : Array Operand} {caps vs : List V} {Φ : V → Heap → Nat → Prop} (hop : OpenM E f vs h n Φ) (ho : o.op = .call { callee := .value z, args := args, argTypes := tys }) {d : Nat} (G0 : E.eval t z = .clo f caps ∧ args.toList.map (E.eval t) ++ caps = vs ∧ o.dst = some d ∧ Nat.blt d sz = true ∧ guardV ops t o = some true)
  (w : ∀ v g m, Φ v g m → Ch h g → n ≤ m → ∀ wr, WD E sz ops bl (⟨false, v, [], true, wr, n, m⟩ :: pre) l (upd t d v) g m R) : WD E sz ops bl pre (o :: l) t h n R := by
 obtain ⟨hc, hv, hdd, hd, hg⟩ := G0
 obtain ⟨a, h1, h2⟩ := hop
 exact dop h2 ho hc hv hdd hd hg (w _ _ _ h1 ⟨_, rfl⟩ h2.le _)
end rules
structure RuS where
 i : Nat
 an : V
 bA : Nat
 m : Nat
 Sl : V
 Ss : V
 W : Nat → V
 g : Heap
structure RuI (L : List Rq) (Tm : List Int) (a : RuS) : Prop where
 il : a.i ≤ L.length
 g0 : a.g 0 = some ⟨[[.int .i64 0, .int .i64 0, .nsl, .nsl]], 4, 35⟩
 T : TabM (runT L Tm a.i).1 1 a.Sl a.Ss a.W a.g a.m
 o1 : ∀ x, OwnT 1 a.Sl a.Ss a.W (runT L Tm a.i).1.lk.length x → 1 ≤ x
 an : (a.i = 0 ∧ a.an = .nsl) ∨ (a.an = .view a.bA 0 a.i ∧ a.g a.bA = some ⟨(runT L Tm a.i).2.map An.V, 4, 60⟩ ∧ (2 ≤ a.bA ∧ a.bA < a.m) ∧ ¬ OwnT 1 a.Sl a.Ss a.W (runT L Tm a.i).1.lk.length a.bA)
 mm : 2 ≤ a.m
theorem T1_M {g : Heap} (h : g 1 = some ⟨[[.int .i64 0, .int .i64 1, .nsl, .nsl]], 4, 35⟩) {m : Nat} (hm : 1 < m) : TabM T1 1 .nsl .nsl (fun _ => .nsl) g m :=
 ⟨hm, h, .inl ⟨rfl, rfl⟩, .inl ⟨rfl, rfl⟩, fun i hi => absurd hi (Nat.not_lt_zero _), fun a h => (by cases h), fun a h => (by cases h), fun i a hi => absurd hi (Nat.not_lt_zero _)⟩
theorem s76 : Pure En 76 [] [.agg [.int .i64 0, .int .i64 1, .nsl, .nsl]] := by
 refine Pure.of_wp Try.func76 rfl kb ?_
 refine A2 (A0 (H3 j6 (A3 (A1 (A2 (A0 (N0 (cs := [.int _ _, .int _ _, _, _]) j5 (D6 (u := .agg [.int _ _, .int _ _, _, _]) j3 rfl rfl rfl rfl rfl rfl kb rfl j2 (A3 (A1 (B1 ?_)))))))))))
 exact fin rfl rfl
theorem p33 (L : List Rq) (Tm : List Int) (b1 b2 : Bool) (hR : Reqs L Tm) : ∃ y : Nl, NilM (runT L Tm L.length).1 y ∧ Pure En 33 [.one (.sl b1 (L.map Rq.T)), .one (.sl b2 (Tm.map iT))] [.agg ((runT L Tm L.length).1.M y), .one (.sl false ((runT L Tm L.length).2.map An.T)), .one (.int .i64 0)] := by
 have hl1 : (L.map Rq.T).length = L.length := List.length_map ..
 have hl2 : (Tm.map iT).length = Tm.length := List.length_map ..
 have hl3 := hR.2.2.1
 have hl4 := hR.2.2.2
 refine Pure.of_wpX (R := fun y : Nl => [.agg ((runT L Tm L.length).1.M y), .one (.sl false ((runT L Tm L.length).2.map An.T)), .one (.int .i64 0)]) Try.func33 rfl kb ?_
 refine A2 (A0 (H3 j6 (Z4 j5 (D1 j5 (A3 (A1 (A2 (A2 (A0 (J7 j5 (J7 j5 (AS (s65 L Tm b1 b2 hR) rfl j5 ?_))))))))))))
 refine D1 j5 (A3 (A1 (A2 (A0 (B5 j5 ?_)))))
 refine rne j6 (fun h => absurd h ((fun hh => hh rfl))) ?_
 intro h2_1
 refine A3 (A1 (wF rfl (B2 (A1 (A2 (A0 (AS s76 rfl j5 (H3 j6 ?_))))))))
 (apply D6 (u := .agg [.int _ _, .int _ _, _, _]) j3; exact Q0; exact C8; rfl; rfl; rfl; (first | rfl | (show (Sl.cell && (Ss.cell && true)) = true; rw [q2.kl.cell, q2.ks.cell]; rfl)); exact kb; rfl; exact j2)
 refine A3 (A1 (A2 (A0 (Z4 j5 (A3 (A1 (A2 (A2 (A0 (J7 j5 (G7 rfl rfl rfl j3 (B5 j5 ?_))))))))))))
 refine A3 (A1 (B4 (F0 ?_)))
 refine wlG fun g0 hg0 => ?_
 refine E4 (fun (a : RuS) => [.unk, .sl false b2 (Tm.map iT), .unk, .unk, .ptr 0 0 0, .unk, .unk, .unk, .ptr 1 0 0, a.an, .unk, .unk, .unk, .unk, .unk, .unk, .unk, .unk, .unk, .unk, .sl false b1 (L.map Rq.T), .int .i64 (L.map Rq.T).length, .int .i64 a.i]) (fun (a : RuS) => a.g) (fun (a : RuS) => a.m) (fun (a : RuS) => RuI L Tm a) (fun (a : RuS) => L.length - a.i) ⟨0, .nsl, 0, 2, .nsl, .nsl, fun _ => .nsl, g0⟩ ?_ ?_ ?_ ?_ ?_
 ·refine ⟨Nat.zero_le _, ?_, T1_M ?_ (by dsimp only; omega), fun x o => ?_, .inl ⟨rfl, rfl⟩, by dsimp only; omega⟩
  ·dsimp only; rw [hg0]; exact Q0
  ·dsimp only; rw [hg0]; exact Q0
  ·rcases o with rfl | o | o | ⟨i, hi, o⟩
   ·exact Nat.le_refl _
   ·cases o
   ·cases o
   ·exact absurd hi (Nat.not_lt_zero _)
 ·(repeat first | exact LE.nil _ | refine LE.unk _ _ ?_ | refine LE.eq _ _ _ rfl ?_)
 ·exact LessH.refl _
 ·exact Nat.le_refl _
 intro ⟨i, an, bA, m, Sl, Ss, W, g⟩ hI ih
 have q0 := hI.il
 have q1 := hI.g0
 have q2 := hI.T
 have q3 := hI.o1
 have q4 := hI.mm
 dsimp only at q0 q1 q2 q3 q4 ⊢
 have q5 := q2.kid
 obtain ⟨r1, r2, r3, r4⟩ := Y8 hR i q0
 have hro : i < L.length → (L.getD i Rq0).OK := fun h => (hR.1 _ (I8 h)).1
 have hto : i < L.length → 0 ≤ Tm.getD i 0 ∧ Tm.getD i 0 ≤ 1000000000 := fun h => by have := hR.2.1 _ (I8 (L := Tm) (i := i) (d := 0) (by have := hR.2.2.2; omega)); omega
 rcases hI.an with ⟨e0, e1⟩ | ⟨e1, gA, hbA, hnA⟩
 ·skip
  dsimp only at e0 e1
  subst e0
  subst e1
  refine E8 (A2 (A0 ?_))
  refine H9 j6 ?_ ?_ <;> intro h7_0
  ·refine A3 (A1 (A2 (wT rfl (B2 (A1 (A2 (B4 (A2 (A0 (B5 j5 ?_))))))))))
   (apply K8 j4; exact Z6; (first | rfl | assumption | (first | exact D8 Rq.T Rq0 (k := 0) (by omega) | exact D8 iT 0 (k := 0) (by omega))); exact j4)
   refine N4 (vs := [.int _ _, .int _ _, .int _ _, .int _ _, .str _]) j3 kb j4 (H3 j6 (D1 j5 ?_))
   (apply D6 (u := .agg [.int _ _, .int _ _, .int _ _, .int _ _, .str _]) j3; exact Q0; exact C8; rfl; rfl; rfl; (first | rfl | (show (Sl.cell && (Ss.cell && true)) = true; rw [q2.kl.cell, q2.ks.cell]; rfl)); exact kb; rfl; exact j2)
   refine A3 (A1 ?_)
   refine Z2 fun G1 hG1 => ?_
   have bq := Bq.of r1 (hro (by omega)) (hto (by omega)) (by have := hR.2.2.1; omega)
   have T1 : TabM (runT L Tm 0).1 1 Sl Ss W G1 (m + 1) := q2.ext (by omega) (fun a ha => by rw [hG1]; (simp (disch := (first | omega | assumption)) only [↓appC, ↓updN, ↓updS, ↓app0]))
   have g01 : G1 0 = some ⟨[[.int .i64 0, .int .i64 0, .nsl, .nsl]], 4, 35⟩ := by rw [hG1]; (simp (disch := (first | omega | assumption)) only [↓appC, ↓updN, ↓updS, ↓app0]); exact q1
   have gr1 : G1 m = some ⟨[[.int .i64 (L.getD 0 Rq0).cl, .int .i64 (L.getD 0 Rq0).st, .int .i64 (L.getD 0 Rq0).kd, .int .i64 (L.getD 0 Rq0).le, .str (L.getD 0 Rq0).nm]], 5, 64⟩ := by rw [hG1]; exact Q0
   refine B9 [0, 0, 0, 6, 14, 0, 62, 126, 255, 511] rfl (by decide +kernel) ?_
   first | refine dmV j5 ?_ | refine dmN j5 ?_
   refine dmL j5 (I2 j5 ?_)
   (apply O4 j4; exact Z6; (first | rfl | assumption | (first | exact D8 Rq.T Rq0 (k := 0) (by omega) | exact D8 iT 0 (k := 0) (by omega))); exact j4)
   refine V7 (v := .int _ _) j8 ?_
   (apply L8 (vs := [.int _ _, .int _ _, .int _ _, .int _ _, .str _]) j2; exact Q0; exact C8; rfl; exact kb; exact j4)
   refine dopM (o71 (runT L Tm 0).1 (Tm.getD 0 0) (L.getD 0 Rq0) bq T1) rfl j5 ?_
   rintro _ g3 m3 ⟨rfl, S3⟩ hc3 hl3
   intro wr3
   obtain ⟨Sl2, Ss2, W2, T2, x1, x2, x3⟩ := S3
   have g03 : g3 0 = some ⟨[[.int .i64 0, .int .i64 0, .nsl, .nsl]], 4, 35⟩ := by rw [x2 0 (by omega) (fun o => by have := q3 0 o; omega)]; exact g01
   refine X6 (es := [[.int _ _, .int _ _, .int _ _, .int _ _]]) j4 kz kb rfl rfl j3 ?_
   first | (apply T6 (s' := 32) (es := [[.int _ _, .int _ _, .int _ _, .int _ _]]) rfl rfl; exact Q0; exact j2; (first | rfl | (rw [List.length_map, K4]; omega)); exact j2; exact kz; exact S4; exact AT; exact Q26; exact Q26; exact j3) | (apply dan (s' := 32) (es := [[.int _ _, .int _ _, .int _ _, .int _ _]]) rfl j3 kz; exact S4; exact AT; exact Q26; exact Q26; exact Q26; exact j3)
   refine daV j5 (B3 10 [0, 3, 3, 3, 1, 0, 0, 0, 0, 0] [] j2 (by decide +kernel) trivial ?_)
   refine C0 (A1 ?_)
   refine Z2 fun G hG => ?_
   refine A0 (D0 j3 ?_ ?_ j3 ?_)
   ·exact Z6
   ·exact Z6
   refine B5 j5 (A3 (E3 ?_))
   refine I4 (ih ⟨0 + 1, .view (m3 + 1) 0 (0 + 1), m3 + 1, m3 + 1 + 1, Sl2, Ss2, W2, G⟩ ⟨by dsimp only; omega, ?_, ?_, fun x o => ?_, .inr ⟨rfl, ?_, by dsimp only; omega, fun o => ?_⟩, by dsimp only; omega⟩ (by dsimp only; omega)) (by (repeat first | exact LE.nil _ | refine LE.unk _ _ ?_ | refine LE.eq _ _ _ rfl ?_)) (LessH.refl _) (Nat.le_refl _)
   ·dsimp only; rw [hG]; exact Q0
   ·refine T2.keep (by dsimp only; omega) (fun a o => ?_)
    have := T2.lt o
    skip
    dsimp only; rw [hG]; (simp (disch := (first | omega | assumption)) only [↓appC, ↓updN, ↓updS, ↓app0])
   ·exact (x1 x o).elim (fun o2 => q3 x o2) (fun h => by omega)
   ·dsimp only; rw [hG]; show _ = some (Blk.mk (((runT L Tm 0).2 ++ [_]).map An.V) 4 60); rw [List.map_append]; exact Q0
   ·have := T2.lt o; dsimp only at this; omega
  ·refine A3 (A1 (A2 (wF rfl (E5 (E6 (D2 (C5 (A1 (A2 (A0 ?_))))))))))
   (apply F7 (vs := [.int _ _, .int _ _, _, _]) j2; exact Q0; exact C8; rfl; exact kb; rfl; exact j3)
   first | refine J6 j5 ?_ | refine rmN j5 ?_
   (apply D6 (u := .agg [.int _ _, .int _ _, _, _]) j3; exact Q0; exact C8; rfl; rfl; rfl; (first | rfl | (show (Sl.cell && (Ss.cell && true)) = true; rw [q2.kl.cell, q2.ks.cell]; rfl)); exact kb; rfl; exact j2)
   first | refine P9 j5 ?_ | refine Z4 j5 ?_
   refine D1 j5 (A3 (A1 (B1 ?_)))
   have hz : L.length = 0 := by omega
   rw [hz]
   refine ⟨(fun i => isV (W i), isV Sl, isV Ss), (q2.toV (n0 := 1) q3).nilOK, P4 (0 :: tabIds Sl Ss W (runT L Tm 0).1.lk.length) (A6 (A7 rfl (by exact Q0) j2 kb rfl) (A6 rfl (A6 rfl A9))) ?_⟩
   exact SnapL.cons _ _ _ _ (BO ((q2.toV (n0 := 1) q3).keep (Nat.le_refl _) (fun a h1 h2 => by (simp (disch := (first | omega | assumption)) only [↓appC, ↓updN, ↓updS, ↓app0])) : TabV _ Sl Ss W _ 1 m) (fun _ h => List.mem_cons_of_mem _ h)) (SnapL.cons _ _ _ _ (.one _ _ .nslW) (SnapL.cons _ _ _ _ (.one _ _ (.int _ _)) SnapL.nil))
 ·skip
  dsimp only at e1 gA hbA hnA
  subst e1
  refine E8 (A2 (A0 ?_))
  refine H9 j6 ?_ ?_ <;> intro h7_0
  ·refine A3 (A1 (A2 (wT rfl (B2 (A1 (A2 (B4 (A2 (A0 (B5 j5 ?_))))))))))
   (apply K8 j4; exact Z6; exact Q39; exact j4)
   refine N4 (vs := [.int _ _, .int _ _, .int _ _, .int _ _, .str _]) j3 kb j4 (H3 j6 (D1 j5 ?_))
   (apply D6 (u := .agg [.int _ _, .int _ _, .int _ _, .int _ _, .str _]) j3; exact Q0; exact C8; rfl; rfl; rfl; (first | rfl | (show (Sl.cell && (Ss.cell && true)) = true; rw [q2.kl.cell, q2.ks.cell]; rfl)); exact kb; rfl; exact j2)
   refine A3 (A1 ?_)
   refine Z2 fun G1 hG1 => ?_
   have bq := Bq.of r1 (hro (by omega)) (hto (by omega)) (by have := hR.2.2.1; omega)
   have T1 : TabM (runT L Tm i).1 1 Sl Ss W G1 (m + 1) := q2.ext (by omega) (fun a ha => by rw [hG1]; (simp (disch := (first | omega | assumption)) only [↓appC, ↓updN, ↓updS, ↓app0]))
   have g01 : G1 0 = some ⟨[[.int .i64 0, .int .i64 0, .nsl, .nsl]], 4, 35⟩ := by rw [hG1]; (simp (disch := (first | omega | assumption)) only [↓appC, ↓updN, ↓updS, ↓app0]); exact q1
   have gr1 : G1 m = some ⟨[[.int .i64 (L.getD i Rq0).cl, .int .i64 (L.getD i Rq0).st, .int .i64 (L.getD i Rq0).kd, .int .i64 (L.getD i Rq0).le, .str (L.getD i Rq0).nm]], 5, 64⟩ := by rw [hG1]; exact Q0
   have gA1 : G1 bA = some ⟨(runT L Tm i).2.map An.V, 4, 60⟩ := by rw [hG1]; (simp (disch := (first | omega | assumption)) only [↓appC, ↓updN, ↓updS, ↓app0]); exact gA
   refine B9 [0, 0, 0, 6, 14, 0, 62, 126, 255, 511] rfl (by decide +kernel) ?_
   first | refine dmV j5 ?_ | refine dmN j5 ?_
   refine dmL j5 (I2 j5 ?_)
   (apply O4 j4; exact Z6; exact Q39; exact j4)
   refine V7 (v := .int _ _) j8 ?_
   (apply L8 (vs := [.int _ _, .int _ _, .int _ _, .int _ _, .str _]) j2; exact Q0; exact C8; rfl; exact kb; exact j4)
   refine dopM (o71 (runT L Tm i).1 (Tm.getD i 0) (L.getD i Rq0) bq T1) rfl j5 ?_
   rintro _ g3 m3 ⟨rfl, S3⟩ hc3 hl3
   intro wr3
   obtain ⟨Sl2, Ss2, W2, T2, x1, x2, x3⟩ := S3
   have g03 : g3 0 = some ⟨[[.int .i64 0, .int .i64 0, .nsl, .nsl]], 4, 35⟩ := by rw [x2 0 (by omega) (fun o => by have := q3 0 o; omega)]; exact g01
   have gA3 : g3 bA = some ⟨(runT L Tm i).2.map An.V, 4, 60⟩ := by rw [x2 bA (by omega) hnA]; exact gA1
   refine X6 (es := [[.int _ _, .int _ _, .int _ _, .int _ _]]) j4 kz kb rfl rfl j3 ?_
   first | (apply T6 (s' := 32) (es := [[.int _ _, .int _ _, .int _ _, .int _ _]]) rfl rfl; exact Q0; exact j2; (first | rfl | (rw [List.length_map, K4]; omega)); exact j2; exact kz; exact S4; exact AT; exact Q26; exact Q26; exact j3) | (apply dan (s' := 32) (es := [[.int _ _, .int _ _, .int _ _, .int _ _]]) rfl j3 kz; exact S4; exact AT; exact Q26; exact Q26; exact Q26; exact j3)
   refine daV j5 (B3 10 [0, 3, 3, 3, 1, 0, 0, 0, 0, 0] [] j2 (by decide +kernel) trivial ?_)
   refine C0 (A1 ?_)
   refine Z2 fun G hG => ?_
   refine A0 (D0 j3 ?_ ?_ j3 ?_)
   ·exact Z6
   ·exact Z6
   refine B5 j5 (A3 (E3 ?_))
   refine I4 (ih ⟨i + 1, .view (m3 + 1) 0 (i + 1), m3 + 1, m3 + 1 + 1, Sl2, Ss2, W2, G⟩ ⟨by dsimp only; omega, ?_, ?_, fun x o => ?_, .inr ⟨rfl, ?_, by dsimp only; omega, fun o => ?_⟩, by dsimp only; omega⟩ (by dsimp only; omega)) (by (repeat first | exact LE.nil _ | refine LE.unk _ _ ?_ | refine LE.eq _ _ _ rfl ?_)) (LessH.refl _) (Nat.le_refl _)
   ·dsimp only; rw [hG]; exact Q0
   ·refine T2.keep (by dsimp only; omega) (fun a o => ?_)
    have := T2.lt o
    have hne : a ≠ bA := fun e => (x1 a o).elim (fun o2 => hnA (e ▸ o2)) (fun h => by omega)
    dsimp only; rw [hG]; (simp (disch := (first | omega | assumption)) only [↓appC, ↓updN, ↓updS, ↓app0])
   ·exact (x1 x o).elim (fun o2 => q3 x o2) (fun h => by omega)
   ·dsimp only; rw [hG]; show _ = some (Blk.mk (((runT L Tm i).2 ++ [_]).map An.V) 4 60); rw [List.map_append]; exact Q0
   ·have := T2.lt o; dsimp only at this; omega
  ·refine A3 (A1 (A2 (wF rfl (E5 (E6 (D2 (C5 (A1 (A2 (A0 ?_))))))))))
   (apply F7 (vs := [.int _ _, .int _ _, _, _]) j2; exact Q0; exact C8; rfl; exact kb; rfl; exact j3)
   first | refine J6 j5 ?_ | refine rmN j5 ?_
   (apply D6 (u := .agg [.int _ _, .int _ _, _, _]) j3; exact Q0; exact C8; rfl; rfl; rfl; (first | rfl | (show (Sl.cell && (Ss.cell && true)) = true; rw [q2.kl.cell, q2.ks.cell]; rfl)); exact kb; rfl; exact j2)
   first | refine P9 j5 ?_ | refine Z4 j5 ?_
   refine D1 j5 (A3 (A1 (B1 ?_)))
   obtain rfl : i = L.length := by omega
   refine ⟨(fun i => isV (W i), isV Sl, isV Ss), (q2.toV (n0 := 1) q3).nilOK, P4 (bA :: tabIds Sl Ss W (runT L Tm L.length).1.lk.length) (A6 (A7 rfl (by exact Q0) j2 kb rfl) (A6 rfl (A6 rfl A9))) ?_⟩
   exact SnapL.cons _ _ _ _ (BO ((q2.toV (n0 := 1) q3).keep (Nat.le_refl _) (fun a h1 h2 => by (simp (disch := (first | omega | assumption)) only [↓appC, ↓updN, ↓updS, ↓app0])) : TabV _ Sl Ss W _ 1 m) (fun _ h => List.mem_cons_of_mem _ h)) (SnapL.cons _ _ _ _ (.one _ _ (.weak _ _ (H8 ((runT L Tm L.length).2.map An.T) (List.mem_cons_self ..) (by (simp (disch := (first | omega | assumption)) only [↓appC, ↓updN, ↓updS, ↓app0]); exact gA) (rowsAn _).symm (by rw [List.length_map, K4])))) (SnapL.cons _ _ _ _ (.one _ _ (.int _ _)) SnapL.nil))
open Go.V
set_option linter.unusedVariables false
set_option linter.unusedSimpArgs false
set_option maxRecDepth 20000
set_option maxHeartbeats 4000000
theorem o87N (fr nn : Bool) (N : Nat → Bool) (L : List Lk) (s : ByteArray) (hs : Srt L) (hL : L.length ≤ 1048576) {h : Heap} {n : Nat} : V.Open En 87 [.sl fr nn (lksN N L), .str s, .clo 88 []] h n (.tup [.int .i64 (pos s L), .bool (decide (hit s L))]) [] (n + L.length + 1) := by
 have hl : (lksN N L).length = L.length := K5 N L
 refine V.Open.of_wp Try.func87 rfl kb ?_
 refine A2 (A0 (D1 j5 (C3 j5 (A3 (A1 (A2 (A0 (J7 j5 (G7 rfl rfl rfl j3 (D1 j5 (A3 (A1 ?_))))))))))))
 refine A2 (A0 (B5 j5 (D1 j5 (D1 j5 (A3 (A1 (A2 (B4 (F0 ?_)))))))))
 refine E4 (fun (a : Nat × Nat × Nat) => [.sl fr nn (lksN N L), .str s, .clo 88 [], .unk, .unk, .unk, .unk, .unk, .int .i64 (lksN N L).length, .int .i64 a.1, .int .i64 a.2.1]) (fun (a : Nat × Nat × Nat) => h) (fun (a : Nat × Nat × Nat) => a.2.2) (fun (a : Nat × Nat × Nat) => a.1 ≤ a.2.1 ∧ a.2.1 ≤ L.length ∧ (∀ j, j < a.1 → ltS (lnm L j) s) ∧ (∀ j, a.2.1 ≤ j → j < L.length → ¬ ltS (lnm L j) s) ∧ n ≤ a.2.2 ∧ a.2.2 + (a.2.1 - a.1) ≤ n + L.length) (fun (a : Nat × Nat × Nat) => a.2.1 - a.1) (0, (lksN N L).length, n) ?_ ?_ ?_ ?_ ?_
 ·exact ⟨Nat.zero_le _, by dsimp only; omega, N1, fun j h1 h2 => absurd h1 (by dsimp only; omega), Nat.le_refl _, by dsimp only; omega⟩
 ·(repeat first | exact LE.nil _ | refine LE.unk _ _ ?_ | refine LE.eq _ _ _ rfl ?_)
 ·exact LessH.refl _
 ·exact Nat.le_refl _
 intro ⟨lo, hi, m⟩ hI ih
 dsimp only at hI ⊢
 obtain ⟨i1, i2, i3, i4, i5, i6⟩ := hI
 have hmid : (IntKind.u64.wrap ((lo : Int) + hi)).fdiv (2 ^ (min (1 : Int).toNat IntKind.u64.bits)) = (((lo + hi) / 2 : Nat) : Int) := by
  rw [IntKind.wrap_u64, show min (1 : Int).toNat IntKind.u64.bits = 1 from rfl, Int.emod_eq_of_lt (by omega) (by omega), Int.fdiv_eq_ediv_of_nonneg _ (by decide)]
  omega
 have hp1 : lo = hi → pos s L = lo := fun e => U4 (by omega) i3 (fun h2 => i4 lo (by omega) h2)
 refine E8 (A2 (A2 (A0 (B5 j5 (B5 j5 ?_)))))
 refine H9 j6 ?_ ?_ <;> intro h3_2
 ·refine A3 (A1 (wT rfl (B2 (A1 (B4 (A2 (A0 (B5 j5 (B5 j5 (D0 j3 ?_ ?_ j3 ?_))))))))))
  ·exact Q4
  ·exact Q4
  refine rcv j7 (rshr j3 ?_ j3 ?_)
  ·exact Q4
  (refine r0 ((V6 (k' := .i64) rfl rfl rfl rfl).to (v' := .int .i64 (((lo + hi) / 2 : Nat) : Int)) (by rw [hmid, G6 (by omega) (by omega)])) rfl rfl rfl ?_)
  refine D1 j5 (A3 (A1 (A2 (A0 (rmC j5 (J7 j5 (B5 j5 ?_)))))))
  (apply K8 j4; exact Q4; (first | rfl | assumption | (first | exact I1 (B := N) (i := (lo + hi) / 2) (by omega) | exact I1 (B := N) (i := lo) (by omega))); exact j4)
  refine N4 (vs := [.str _, .int _ _, .int _ _, .int _ _, _]) j3 kb j4 (T7 j5 (I7 (o88 (L.getD ((lo + hi) / 2) Lk0) _ U8 s) rfl rfl rfl rfl rfl rfl ?_))
  refine H9 j6 ?_ ?_ <;> intro h5_7
  ·refine A3 (A1 (wT rfl (A0 (B5 j5 (D0 j3 ?_ ?_ j3 ?_)))))
   ·exact Q4
   ·exact Q4
   refine D1 j5 (A3 (C0 (E3 ?_)))
   first
   |(have hx : ltS (lnm L ((lo + hi) / 2)) s := Y3.1 h5_7
     exact I4 (ih ((lo + hi) / 2 + 1, hi, m + 1) ⟨by dsimp only; omega, i2, fun j hj => by dsimp only at hj; by_cases e : j = (lo + hi) / 2 <;> first | (rw [e]; exact hx) | exact I5 (hs.lt (j := (lo + hi) / 2) (by omega) (by omega)) hx, i4, by dsimp only; omega, by dsimp only; omega⟩ (by dsimp only; omega)) (by (repeat first | exact LE.nil _ | refine LE.unk _ _ ?_ | refine LE.eq _ _ _ rfl ?_)) (LessH.refl _) (Nat.le_refl _))
   | exact I4 (ih (lo, (lo + hi) / 2, m + 1) ⟨by dsimp only; omega, by dsimp only; omega, i3, fun j hj hj2 e => by
     dsimp only at hj
     refine h5_7 (Y3.2 ?_)
     by_cases e2 : j = (lo + hi) / 2
     ·rw [e2] at e; exact e
     ·exact I5 (hs.lt (i := (lo + hi) / 2) (by omega) hj2) e, by dsimp only; omega, by dsimp only; omega⟩ (by dsimp only; omega)) (by (repeat first | exact LE.nil _ | refine LE.unk _ _ ?_ | refine LE.eq _ _ _ rfl ?_)) (LessH.refl _) (Nat.le_refl _)
  ·refine A3 (A1 (wF rfl (A0 (B5 j5 (D1 j5 (A3 (C0 (E3 ?_))))))))
   first
   |(have hx : ltS (lnm L ((lo + hi) / 2)) s := Y3.1 h5_7
     exact I4 (ih ((lo + hi) / 2 + 1, hi, m + 1) ⟨by dsimp only; omega, i2, fun j hj => by dsimp only at hj; by_cases e : j = (lo + hi) / 2 <;> first | (rw [e]; exact hx) | exact I5 (hs.lt (j := (lo + hi) / 2) (by omega) (by omega)) hx, i4, by dsimp only; omega, by dsimp only; omega⟩ (by dsimp only; omega)) (by (repeat first | exact LE.nil _ | refine LE.unk _ _ ?_ | refine LE.eq _ _ _ rfl ?_)) (LessH.refl _) (Nat.le_refl _))
   | exact I4 (ih (lo, (lo + hi) / 2, m + 1) ⟨by dsimp only; omega, by dsimp only; omega, i3, fun j hj hj2 e => by
     dsimp only at hj
     refine h5_7 (Y3.2 ?_)
     by_cases e2 : j = (lo + hi) / 2
     ·rw [e2] at e; exact e
     ·exact I5 (hs.lt (i := (lo + hi) / 2) (by omega) hj2) e, by dsimp only; omega, by dsimp only; omega⟩ (by dsimp only; omega)) (by (repeat first | exact LE.nil _ | refine LE.unk _ _ ?_ | refine LE.eq _ _ _ rfl ?_)) (LessH.refl _) (Nat.le_refl _)
 ·refine A3 (A1 (wF rfl (E5 (E6 (D2 (C5 (A1 (A2 (A0 (B5 j5 (B5 j5 (B5 j5 ?_))))))))))))
  refine H9 j6 ?_ ?_ <;> intro h8_3
  ·refine C7 j5 (rmC j5 (J7 j5 (B5 j5 ?_)))
   (apply K8 j4; exact Q4; (first | rfl | assumption | (first | exact I1 (B := N) (i := (lo + hi) / 2) (by omega) | exact I1 (B := N) (i := lo) (by omega))); exact j4)
   refine N4 (vs := [.str _, .int _ _, .int _ _, .int _ _, _]) j3 kb j4 (T7 j5 (I7 (o88 (L.getD lo Lk0) _ U8 s) rfl rfl rfl rfl rfl rfl ?_))
   refine H5 j6 ?_ ?_ <;> intro h8_12
   ·refine B7 (e := true) j6 (D1 j5 (C3 j5 (A3 (A1 (B1 ?_)))))
    have e : lo = hi := (by omega); have hp1 := hp1 e; exact Q24
   ·refine B7 (e := false) j6 (D1 j5 (C3 j5 (A3 (A1 (B1 ?_)))))
    have e : lo = hi := (by omega); have hp1 := hp1 e; exact Q24
  ·refine C7 j5 (A4 j3 (A4 j3 (A4 j3 (A4 j3 (A4 j3 (A4 j3 (A4 j3 (A4 j3 (B7 (e := false) j6 (D1 j5 (C3 j5 (A3 ?_))))))))))))
   refine A1 (B1 ?_)
   have e : lo = hi := (by omega); have hp1 := hp1 e; exact Q24
theorem o48N (tm nx : Int) (n1 : Bool) (N : Nat → Bool) (L : List Lk) (Ss : V) (s : ByteArray) (hs : Srt L) (hL : L.length ≤ 1048576) {id : Nat} {h : Heap} {n : Nat} (hid : id < n) (hh : h id = some ⟨[[.int .i64 tm, .int .i64 nx, .sl false n1 (lksN N L), Ss]], 4, 35⟩) : V.Open En 48 [.ptr id 0 0, .str s] h n (.tup [.int .i64 (pos s L), .bool (decide (hit s L))]) [] (n + L.length + 1) := by
 refine V.Open.of_wp Try.func48 rfl kb ?_
 refine A2 (A0 (D1 j5 (C3 j5 (A3 (A1 (A2 (A0 (D9 j5 (F8 (v := .ptr _ _ _) j6 (C2 (off := 2) (s := 1) (r := false) j3 kz j3 ?_))))))))))
 (apply C6 (v := .sl _ _ _) j2; exact Q0; rfl; exact j5)
 refine T7 j5 (I7 (o87N false n1 N L s hs hL) rfl rfl rfl rfl rfl rfl (T8 j6 ?_))
 refine rexB j6 ?_ ?_ <;> intro h1_7
 ·refine D1 j5 (C3 j5 (A3 (A1 (B1 ?_))))
  first | (rw [h1_7]; exact F2 rfl rfl (fun _ _ _ e => e) (Nat.le_refl _)) | (rw [h1_7]; exact F2 rfl rfl (fun _ _ _ e => e) (Nat.le_refl _))
 ·refine D1 j5 (C3 j5 (A3 (A1 (B1 ?_))))
  first | (rw [h1_7]; exact F2 rfl rfl (fun _ _ _ e => e) (Nat.le_refl _)) | (rw [h1_7]; exact F2 rfl rfl (fun _ _ _ e => e) (Nat.le_refl _))
theorem o48Nh (tm nx : Int) (N : Nat → Bool) (L : List Lk) (Ss : V) (s : ByteArray) (hs : Srt L) (hL : L.length ≤ 1048576) (hh : hit s L) {id : Nat} {h : Heap} {n : Nat} (hid : id < n) (k : h id = some ⟨[[.int .i64 tm, .int .i64 nx, .sl false true (lksN N L), Ss]], 4, 35⟩) :
  V.Open En 48 [.ptr id 0 0, .str s] h n (.tup [.int .i64 (pos s L), .bool true]) [] (n + L.length + 1) := by
 have := o48N tm nx true N L Ss s hs hL hid k
 rwa [decide_eq_true hh] at this
theorem p12N (t : Tb) (x : Nl) (hN : NilM t x) (s : ByteArray) (hs : ¬ s.size > 65536) (hok : t.OK) (hh : hit s t.lk) : Pure En 12 [.agg (t.M x), .one (.str s)] [.agg ((t.lk.getD (pos s t.lk) Lk0).T false), .one (.int .i64 0)] := by
 obtain ⟨N, b1, b2⟩ := x
 obtain rfl : b1 = true := by
  cases b1
  ·have := hN.l rfl; have q := hh.1; rw [this] at q; exact absurd q (Nat.not_lt_zero _)
  ·rfl
 refine Pure.of_wp Try.func12 rfl kb ?_
 refine A2 (A0 ?_)
 (refine K7 (u := .agg [.int .i64 t.tm, .int .i64 t.nx, .sl false true (lksN N t.lk), T.toV false (nlT b2 (t.sn.map Sn.T))]) j3 (by show ((T.toV false (nlT b2 (t.sn.map Sn.T))).cell && true) = true; rw [U8]; rfl) j3 ?_)
 refine H3 j6 (D1 j5 (A3 (A1 (A2 (B4 (A2 (A0 (T7 j5 (T9 (es := [[.str _]]) j4 kz kb rfl rfl j3 ?_)))))))))
 apply rclSP [0 + 1 + 1] (s47 s) rfl j2
 ·exact SnapL.cons _ _ _ _ (.one _ _ (H8 [[.str s]] (List.mem_singleton.2 rfl) (by exact Q0) rfl rfl)) SnapL.nil
 ·rfl
 ·rfl
 ·rfl
 all_goals intro h1_2
 ·refine C3 j5 (A3 (A1 (wT rfl (A2 ?_))))
  exact absurd (by assumption) hs
 ·refine C3 j5 (A3 (A1 (wF rfl (A2 (A0 ?_)))))
  (apply F7 (vs := [.int _ _, .int _ _, _, _]) j2; exact Q0; exact C8; rfl; exact kb; rfl; exact j3)
  apply rclSP [] (Pure.ofN hN (p23 t false false false)) rfl j2
  ·exact (SnapL.cons _ _ _ _ (SnapC.agg (.cons _ _ _ _ (.int _ _) (.cons _ _ _ _ (.int _ _) (.cons _ _ _ _ (.sl _ _ _ (fun h => by cases h)) (.cons _ _ _ _ (N5 _ (fun h => by cases h)) .nil))))) SnapL.nil)
  ·rfl
  ·rfl
  ·rfl
  all_goals intro h3_1
  ·refine E1 (c := true) j5 (C3 j5 (A3 (A1 (wF rfl (B2 (C0 (A1 (A2 (A0 (T7 j5 ?_))))))))))
   refine I7 (o48Nh t.tm t.nx N t.lk (T.toV false (nlT b2 (t.sn.map Sn.T))) s hok.srt (by have := hok.2.2.1; omega) hh ?_ ?_) rfl rfl rfl rfl rfl rfl ?_
   ·(first | omega | assumption | exact Q0)
   ·(first | omega | assumption | exact Q0)
   refine rmT j5 (T8 j6 (T8 j6 (D1 j5 (C3 j5 (A3 (A1 (A2 (A2 (A0 (C7 j5 (E1 (c := true) j5 (A3 ?_))))))))))))
   refine A1 (wF rfl (B2 (A1 (A2 (A0 ?_)))))
   (apply F7 (vs := [.int _ _, .int _ _, _, _]) j2; exact Q0; exact C8; rfl; exact kb; rfl; exact j3)
   refine L4 (o49N t N true b2 false hN (by have := hok.2.2.1; omega) (fun i hi => by have := OKw hok hi; omega) (by have := hok.2.2.2.1; omega)) rfl j5 ?_
   rintro _ g1 m1 ⟨Sl1, Ss1, W1, rfl, TV, fr1, le1⟩ hc1 hl1
   have hp := hh.1
   obtain ⟨lb, rfl, kl⟩ : ∃ lb, Sl1 = .view lb 0 (rwW t.lk W1).length ∧ g1 lb = some ⟨rwW t.lk W1, 5, 29⟩ := by
    rcases TV.kl with ⟨_, hz⟩ | ⟨lb, e, k⟩
    ·have q := congrArg List.length hz; rw [B6] at q; exact absurd hp (by rw [q]; exact Nat.not_lt_zero _)
    ·exact ⟨lb, e, k⟩
   have kw := TV.kw _ hp
   have kwc := kw.cell
   have hrow : (rwW t.lk W1)[pos s t.lk]? = some [.str (t.lk.getD (pos s t.lk) Lk0).nm, .int .i64 (t.lk.getD (pos s t.lk) Lk0).tk, .int .i64 (t.lk.getD (pos s t.lk) Lk0).hd, .int .i64 (t.lk.getD (pos s t.lk) Lk0).ex, W1 (pos s t.lk)] := G5 hp
   have hln := B6 t.lk W1
   have g04 : g1 (0 + 1) = some ⟨[[.str ⟨#[]⟩, .int .i64 0, .int .i64 0, .int .i64 0, .nsl]], 5, 29⟩ := by rw [fr1 (0 + 1) (by omega)]; exact Q0
   refine rfd  j4 kb j3 (B5 j5 ?_)
   (refine r0 ((C1 (b := ⟨rwW t.lk W1, 5, 29⟩) rfl rfl rfl rfl (by exact Q0) rfl (by omega) (by omega)).to (v' := .ptr lb (pos s t.lk) 0) (by rw [G8])) rfl rfl rfl ?_)
   (apply F7 (vs := [.str (t.lk.getD (pos s t.lk) Lk0).nm, .int .i64 (t.lk.getD (pos s t.lk) Lk0).tk, .int .i64 (t.lk.getD (pos s t.lk) Lk0).hd, .int .i64 (t.lk.getD (pos s t.lk) Lk0).ex, W1 (pos s t.lk)]) j2; exact Q0; exact hrow; rfl; exact kb; rfl; exact j3)
   (apply D6 (u := .agg [.str _, .int _ _, .int _ _, .int _ _, _]) j3; exact Q0; exact C8; rfl; rfl; rfl; (first | rfl | (show ((W1 (pos s t.lk)).cell && true) = true; rw [kwc]; rfl)); exact kb; rfl; exact j2)
   refine D1 j5 (A3 (A1 (B1 (P4 (tabIds (.view lb 0 (rwW t.lk W1).length) Ss1 W1 t.lk.length) (A6 (A7 rfl (by exact Q0) j2 kb rfl) (A6 rfl A9)) ?_))))
   exact SnapL.cons _ _ _ _ (SnapC.agg (.cons _ _ _ _ (.str _) (.cons _ _ _ _ (.int _ _) (.cons _ _ _ _ (.int _ _) (.cons _ _ _ _ (.int _ _) (.cons _ _ _ _ (D7 (kw.mono (fun a ha => by have := TV.fw _ a hp ha; (simp (disch := (first | omega | assumption)) only [↓appC, ↓updN, ↓updS, ↓app0]))) (fun a ha => Y9 hp ha)) .nil)))))) (SnapL.cons _ _ _ _ (.one _ _ (.int _ _)) SnapL.nil)
  ·refine E1 (c := false) j5 (C3 j5 (A3 (A1 (wT rfl (A2 ?_)))))
   exact absurd hok (by assumption)
open Go.V
set_option linter.unusedVariables false
set_option linter.unusedSimpArgs false
set_option maxRecDepth 20000
set_option maxHeartbeats 4000000
def Kp (r : Rq) (l l2 : Lk) : Prop := l2.nm = l.nm ∧ l.tk ≤ l2.tk ∧ (l.hd ≠ -1 → (l2.tk = l.tk ∧ l2.hd = l.hd) ∨ (r.kd = 2 ∧ r.cl = l.hd ∧ r.nm = l.nm))
def KpL (r : Rq) (A B : List Lk) : Prop := ∀ l ∈ A, ∃ l2 ∈ B, Kp r l l2
theorem Kp.refl (r : Rq) (l : Lk) : Kp r l l := ⟨rfl, Int.le_refl _, fun _ => .inl ⟨rfl, rfl⟩⟩
theorem KpL.refl (r : Rq) (A : List Lk) : KpL r A A := fun l h => ⟨l, h, .refl r l⟩
theorem KpL.set {r : Rq} {L : List Lk} {k : Nat} {l1 : Lk} (hk : k < L.length) (h : Kp r (L.getD k Lk0) l1) : KpL r L (L.set k l1) := fun l hl => by
 obtain ⟨i, hi, rfl⟩ := List.getElem_of_mem hl
 by_cases e : i = k
 ·subst e
  refine ⟨l1, List.mem_iff_getElem.2 ⟨i, by rw [List.length_set]; exact hi, by simp⟩, ?_⟩
  rwa [List.getD_eq_getElem?_getD, List.getElem?_eq_getElem hi] at h
 ·exact ⟨L[i], List.mem_iff_getElem.2 ⟨i, by rw [List.length_set]; exact hi, by simp [List.getElem_set_ne (Ne.symm e)]⟩, .refl _ _⟩
theorem KpL.ins {r : Rq} {L : List Lk} {k : Nat} {l1 : Lk} : KpL r L (insL L k l1) := fun l hl => by
 refine ⟨l, ?_, .refl _ _⟩
 unfold insL
 rw [← List.take_append_drop k L] at hl
 rcases List.mem_append.1 hl with h | h
 ·exact List.mem_append_left _ h
 ·exact List.mem_append_right _ (List.mem_cons_of_mem _ h)
theorem frL_tk {tm nx : Int} {l : Lk} (h : l.tk ≤ nx) : l.tk ≤ (frL tm nx l).tk := by
 unfold frL
 split
 ·exact Int.le_refl _
 ·exact h
theorem doT_kp {t : Tb} {r : Rq} (h : LR t) (hr : r.OK) : KpL r t.lk (doT t r).1.lk := by
 have hkd := hr.2.2.1
 unfold doT
 by_cases k1 : r.kd = 1
 ·rw [if_pos k1]
  unfold acqT
  by_cases hh : hit r.nm t.lk
  ·rw [if_pos hh]
   have hk := hh.1
   have hl := h.ok _ hk
   unfold acqL
   split
   ·exact .refl _ _
   ·split
    ·next c2 => exact .set hk ⟨rfl, by have := hl.2.1.2; show _ ≤ t.nx; omega, fun e => absurd c2 e⟩
    ·split
     ·exact .refl _ _
     ·exact .set hk ⟨rfl, Int.le_refl _, fun _ => .inl ⟨rfl, rfl⟩⟩
  ·rw [if_neg hh]
   split
   ·exact .refl _ _
   ·exact .ins
 ·rw [if_neg k1]
  by_cases hh : hit r.nm t.lk
  ·rw [if_pos hh]
   have hk := hh.1
   have hl := h.ok _ hk
   have hnm : (t.lk.getD (pos r.nm t.lk) Lk0).nm = r.nm := hh.2
   unfold doL
   split
   ·exact .set hk ⟨rfl, Int.le_refl _, fun _ => .inl ⟨rfl, rfl⟩⟩
   ·split
    ·exact .refl _ _
    ·split
     ·exact .refl _ _
     ·next c3 =>
      split
      ·exact .set hk ⟨rfl, Int.le_refl _, fun _ => .inl ⟨rfl, rfl⟩⟩
      ·next c4 =>
       refine .set hk ⟨by rw [frL_nm], frL_tk (by have := hl.2.1.2; omega), fun _ => .inr ⟨by omega, by omega, hnm.symm⟩⟩
  ·rw [if_neg hh]; exact .refl _ _
theorem rqT_kp {t : Tb} {now : Int} {r : Rq} (ht : t.OK) (hr : r.OK) (hn : 0 ≤ now ∧ now ≤ 1000000000) : ∀ l ∈ t.lk, ∃ l2 ∈ (rqT t now r).1.lk, l2.nm = l.nm ∧ l.tk ≤ l2.tk ∧ (l.hd ≠ -1 → (l2.tk = l.tk ∧ l2.hd = l.hd) ∨ l.ex ≤ max t.tm now ∨ (r.kd = 2 ∧ r.cl = l.hd ∧ r.nm = l.nm)) := fun l hl => by
 have hL := LR.ex ht hn
 have hq : KpL r (exT t now).lk (rqT t now r).1.lk := by
  unfold rqT reqT
  split
  ·exact .refl _ _
  ·split
   ·exact .refl _ _
   ·split
    ·exact .refl _ _
    ·exact doT_kp hL hr
 obtain ⟨i, hi, rfl⟩ := List.getElem_of_mem hl
 have hg : t.lk.getD i Lk0 = t.lk[i] := by rw [List.getD_eq_getElem?_getD, List.getElem?_eq_getElem hi]; rfl
 have he : exF (max t.tm now) (nxL (max t.tm now) t.nx (t.lk.take i)) t.lk[i] ∈ (exT t now).lk := by
  show _ ∈ exL (max t.tm now) t.nx t.lk
  rw [← hg, ← N7 hi, List.getD_eq_getElem?_getD, List.getElem?_eq_getElem (by rw [V3]; exact hi)]
  exact List.getElem_mem _
 have hnx := (nxL_le (tm := max t.tm now) (nx := t.nx) (L := t.lk) i).1
 have htk := (ht.2.2.2.2.1 i hi).1.2.1.2
 rw [hg] at htk
 obtain ⟨l2, h1, h2, h3, h4⟩ := hq _ he
 by_cases hgn : gone (max t.tm now) t.lk[i]
 ·rw [exF_fr hgn] at h2 h3
  exact ⟨l2, h1, by rw [h2, frL_nm], Int.le_trans (frL_tk (by omega)) h3, fun _ => .inr (.inl hgn.2)⟩
 ·have e : exF (max t.tm now) (nxL (max t.tm now) t.nx (t.lk.take i)) t.lk[i] = t.lk[i] := if_neg hgn
  rw [e] at h2 h3 h4
  exact ⟨l2, h1, h2, h3, fun q => (h4 q).imp (fun x => x) .inr⟩
theorem rqT_at {t : Tb} {now : Int} {r : Rq} (ht : t.OK) (hr : r.OK) (hn : 0 ≤ now ∧ now ≤ 1000000000) (hx : t.nx ≤ 999900) {i : Nat} (hi : i < t.lk.length) : hit (t.lk.getD i Lk0).nm (rqT t now r).1.lk ∧ (t.lk.getD i Lk0).tk ≤ ((rqT t now r).1.lk.getD (pos (t.lk.getD i Lk0).nm (rqT t now r).1.lk) Lk0).tk ∧
  ((t.lk.getD i Lk0).hd ≠ -1 → (((rqT t now r).1.lk.getD (pos (t.lk.getD i Lk0).nm (rqT t now r).1.lk) Lk0).tk = (t.lk.getD i Lk0).tk ∧ ((rqT t now r).1.lk.getD (pos (t.lk.getD i Lk0).nm (rqT t now r).1.lk) Lk0).hd = (t.lk.getD i Lk0).hd) ∨ (t.lk.getD i Lk0).ex ≤ (rqT t now r).1.tm ∨ (r.kd = 2 ∧ r.cl = (t.lk.getD i Lk0).hd ∧ r.nm = (t.lk.getD i Lk0).nm)) := by
 have hg : t.lk.getD i Lk0 ∈ t.lk := by rw [List.getD_eq_getElem?_getD, List.getElem?_eq_getElem hi]; exact List.getElem_mem _
 obtain ⟨l2, h1, h2, h3, h4⟩ := rqT_kp ht hr hn _ hg
 have hq := rqT_R ht hr hn hx
 obtain ⟨j, hj, rfl⟩ := List.getElem_of_mem h1
 have e : (rqT t now r).1.lk.getD j Lk0 = (rqT t now r).1.lk[j] := by rw [List.getD_eq_getElem?_getD, List.getElem?_eq_getElem hj]; rfl
 have hs : Srt (rqT t now r).1.lk := (hq.OK (by omega)).srt
 obtain ⟨k1, k2⟩ := hit_of hs hj (s := (t.lk.getD i Lk0).nm) (by unfold lnm; rw [e]; exact h2)
 rw [k1, e, hq.tm]
 exact ⟨k2, h3, h4⟩
open Go.V
set_option linter.unusedVariables false
set_option linter.unusedSimpArgs false
set_option maxRecDepth 20000
set_option maxHeartbeats 4000000
def bV (b : Int) : List V := [.int .u8 b]
theorem takeAll {l : List Int} {m : Nat} (h : l.length = m) : (((l.map bV).drop 0).take m) = l.map fun b => [.int .u8 b] := by
 rw [List.drop_zero, List.take_of_length_le (by simp; omega)]; rfl
theorem setMap {l : List Int} {i : Nat} {x : Int} : (l.map bV).set i (bV x) = (l.set i x).map bV := by
 rw [List.map_set]
theorem p37 (x : Int) (m : Nat) (hm : m ≤ 8) : ∃ s : ByteArray, s.size = m ∧ Pure En 115 [.one (.int .i64 x), .one (.int .i64 m)] [.one (.str s)] := by
 refine Pure.of_wpX Try.func115 rfl kb ?_
 refine A2 (A0 (raS j5 (A3 (A1 (A2 (A0 (B5 j5 (rmk (s' := 1) j6 kz ?_ ?_ j3 ?_))))))))
 ·exact Q4
 ·exact Q4
 refine P9 j5 (A3 (A1 (A2 (A2 (A0 (B5 j5 (N6 j3 ?_ ?_ j3 ?_)))))))
 ·exact Q4
 ·exact Q4
 refine D1 j5 (A3 (A1 (B4 (F0 ?_))))
 refine E4 (fun (a : Int × Int × List Int) => [.int .i64 a.2.1, .int .i64 m, .unk, .unk, .unk, .view 0 0 m, .int .i64 (a.1 - 1)]) (fun (a : Int × Int × List Int) => hp [(0, ⟨a.2.2.map bV, 1, 5⟩)]) (fun (a : Int × Int × List Int) => 1) (fun (a : Int × Int × List Int) => a.2.2.length = m ∧ a.1 ≤ m) (fun (a : Int × Int × List Int) => a.1.toNat) ((m : Int), x, List.replicate m 0) ?_ ?_ ?_ ?_ ?_
 ·exact ⟨List.length_replicate .., Int.le_refl _⟩
 ·(repeat first | exact LE.nil _ | refine LE.unk _ _ ?_ | refine LE.eq _ _ _ rfl ?_)
 ·(repeat first | exact E9 | (refine F1 ?_ ?_; (first | exact Q0 | (dsimp only; rw [List.map_replicate]; rfl) | (dsimp only; rw [List.map_set, Nat.zero_add]; rfl))))
 ·exact Nat.le_refl _
 intro ⟨i, y, L⟩ hI ih
 dsimp only at hI ⊢
 refine E8 (A2 (A2 (A0 (B5 j5 ?_))))
 refine rge j6 ?_ ?_ <;> intro h3_1
 ·refine A3 (A1 (wT rfl (B2 (A1 (A2 (B4 (A2 (A0 (J6 j5 (B5 j5 (B5 j5 (rcv j7 ?_))))))))))))
  (apply U0 j4; exact Q0; rfl; exact Q4; exact Q4; exact j3)
  (apply D6 j3; rfl; exact mapGet bV 0 (show 0 + (i - 1 : Int).toNat < L.length by omega); rfl; rfl; rfl; rfl; exact kb; rfl; exact j2)
  refine A3 (A1 (A0 (B5 j5 (rshr j3 ?_ j3 ?_))))
  ·exact Q4
  refine D1 j5 (A3 (C0 (A1 (A0 (B5 j5 (N6 j3 ?_ ?_ j3 ?_))))))
  ·exact Q4
  ·exact Q4
  refine D1 j5 (A3 (E3 ?_))
  exact I4 (ih (i - 1, _, L.set (i - 1 : Int).toNat (IntKind.u8.wrap y)) ⟨by dsimp only; rw [List.length_set]; exact hI.1, by dsimp only; omega⟩ (by dsimp only; omega)) (by (repeat first | exact LE.nil _ | refine LE.unk _ _ ?_ | refine LE.eq _ _ _ rfl ?_)) (by (repeat first | exact E9 | (refine F1 ?_ ?_; (first | exact Q0 | (dsimp only; rw [List.map_replicate]; rfl) | (dsimp only; rw [List.map_set, Nat.zero_add]; rfl))))) (Nat.le_refl _)
 ·refine A3 (A1 (wF rfl (E5 (E6 (D2 (C5 (A1 (A2 (A0 (J6 j5 ?_))))))))))
  (apply rsg j4; (apply K0 rfl; exact Q0; (first | exact Nat.le_refl _ | omega | (simp; omega)); rfl); (intro s e; cases e); exact takeAll hI.1; exact j3)
  refine raS j5 (A3 (A1 (B1 ?_)))
  exact ⟨strOf L, by rw [S6]; exact hI.1, fin rfl rfl⟩
theorem num_ex (x : Int) (m : Nat) : ∃ s : ByteArray, s.size = m ∧ (m ≤ 8 → Pure En 115 [.one (.int .i64 x), .one (.int .i64 m)] [.one (.str s)]) := by
 by_cases h : m ≤ 8
 ·obtain ⟨s, h1, h2⟩ := p37 x m h
  exact ⟨s, h1, fun _ => h2⟩
 ·exact ⟨⟨(List.replicate m 0).toArray⟩, by simp [ByteArray.size], fun h' => absurd h' h⟩
noncomputable def Nm (x : Int) (m : Nat) : ByteArray := Classical.choose (num_ex x m)
noncomputable def atx (a : An) : ByteArray := Nm a.kd 1 ++ Nm a.tk 3 ++ Nm (a.hd + 1) 2 ++ Nm a.ex 4
open Go.V
set_option linter.unusedVariables false
set_option linter.unusedSimpArgs false
set_option maxRecDepth 20000
set_option maxHeartbeats 4000000
open Go.V
set_option linter.unusedVariables false
set_option linter.unusedSimpArgs false
set_option maxRecDepth 20000
set_option maxHeartbeats 4000000
open Go.V
set_option linter.unusedVariables false
set_option linter.unusedSimpArgs false
set_option maxRecDepth 20000
set_option maxHeartbeats 4000000
theorem rowsBf (fr : Bool) (B : List Int) : ((B.map bT).map fun r => r.map (T.toV fr)) = B.map bV := by rw [List.map_map]; rfl
theorem snapB {h : Heap} {ids : List Nat} {r : Bool} {id m : Nat} {B : List Int} (hid : id ∈ ids) (hb : h id = some ⟨B.map bV, 1, 5⟩) (hm : m = B.length) : Snap h ids r (.view id 0 m) (.sl true (B.map bT)) :=
 H8 (B.map bT) hid hb (rowsBf true B).symm (by rw [List.length_map]; exact hm)
theorem wrap_nn (a : Int) : 0 ≤ IntKind.u64.wrap a := by
 show 0 ≤ a % (2 ^ 64 : Int)
 exact Int.emod_nonneg _ (by decide)
def bt8 (x i : Int) : Int := IntKind.u8.wrap (x.fdiv (2 ^ (min (IntKind.u64.wrap (8 * i)).toNat IntKind.i64.bits)))
structure NbS where
 i : Int
 ln : Nat
 R : List Int
 id : Nat
 m : Nat
 g : Heap
structure NbI (m n : Nat) (h0 : Heap) (a : NbS) : Prop where
 i : -1 ≤ a.i ∧ a.i ≤ (m : Int) - 1
 ln : a.ln = ((m : Int) - 1 - a.i).toNat
 lR : a.R.length = a.ln
 g : a.g a.id = some ⟨a.R.map bV, 1, 5⟩
 id : n ≤ a.id ∧ a.id < a.m
 ch : Ch h0 a.g
theorem s139 (x : Int) (m : Nat) (hm : m ≤ 8) : ∃ R : List Int, R.length = m ∧ Pure En 139 [.one (.int .i64 x), .one (.int .i64 m)] [.one (.sl true (R.map bT))] := by
 refine Pure.of_wpX Try.func139 rfl kb ?_
 refine A2 (A0 (Z4 j5 (A3 (A1 (A2 (A0 (T9 (es := []) j4 kz kb rfl rfl j3 (P9 j5 (A3 (A1 (A2 (A2 ?_))))))))))))
 refine A0 (B5 j5 (N6 j3 ?_ ?_ j3 ?_))
 ·exact Q29
 ·exact Q29
 refine D1 j5 (A3 (A1 (B4 (F0 ?_))))
 refine wlG fun g0 hg0 => ?_
 refine E4 (fun (a : NbS) => [.int .i64 x, .unk, .unk, .unk, .unk, .view a.id 0 a.ln, .int .i64 a.i]) (fun (a : NbS) => a.g) (fun (a : NbS) => a.m) (fun (a : NbS) => NbI m 0 (fun _ => none) a) (fun (a : NbS) => (a.i + 1).toNat) ⟨(m : Int) - 1, 0, [], 0, 0 + 1, g0⟩ ?_ ?_ ?_ ?_ ?_
 ·refine ⟨by dsimp only; omega, by dsimp only; omega, rfl, ?_, by dsimp only; omega, ?_⟩
  ·dsimp only; rw [hg0]; exact Q0
  ·dsimp only; rw [hg0]; (repeat first | exact Ch.refl _ | refine Ch.upd ?_ | refine Ch.app ?_ | assumption)
 ·(repeat first | exact LE.nil _ | refine LE.unk _ _ ?_ | refine LE.eq _ _ _ rfl ?_)
 ·exact LessH.refl _
 ·exact Nat.le_refl _
 intro ⟨i, ln, R, id, m1, g⟩ hI ih
 have q1 := hI.i
 have q2 := hI.ln
 have q3 := hI.lR
 have q4 := hI.g
 have q5 := hI.id
 dsimp only at q1 q2 q3 q4 q5 ⊢
 refine E8 (A2 (A2 (A0 (B5 j5 ?_))))
 refine rge j6 ?_ ?_ <;> intro h3_1
 ·refine A3 (A1 (wT rfl (B2 (A1 (A2 (B4 (A0 (J6 j5 (B5 j5 (B5 j5 (rmulF j3 ?_ ?_ j3 ?_)))))))))))
  ·exact Q29
  ·exact Q29
  refine rcv j7 (rshr j3 ?_ j3 ?_)
  ·exact Q29
  refine rcv j7 (T9 (es := [[.int _ _]]) j4 kz kb rfl rfl j3 ?_)
  (apply rap (s' := 1) (es := [[.int _ _]]) rfl rfl; exact Q0; exact j2; (first | rfl | omega | (rw [List.length_map]; omega)); exact j2; exact kz; exact S4; exact AT; exact Q30; exact Q30; exact j3)
  refine P9 j5 (A3 (C0 (A1 ?_)))
  refine Z2 fun G hG => ?_
  refine A0 (B5 j5 (N6 j3 ?_ ?_ j3 ?_))
  ·exact Q29
  ·exact Q29
  refine D1 j5 (A3 (E3 ?_))
  refine I4 (ih ⟨i - 1, ln + 1, R ++ [bt8 x i], m1 + 1, m1 + 1 + 1, G⟩ ⟨by dsimp only; omega, by dsimp only; omega, by dsimp only; rw [List.length_append, q3]; rfl, ?_, by dsimp only; omega, ?_⟩ (by dsimp only; omega)) (by (repeat first | exact LE.nil _ | refine LE.unk _ _ ?_ | refine LE.eq _ _ _ rfl ?_)) (LessH.refl _) (Nat.le_refl _)
  ·dsimp only; rw [hG, List.map_append]; exact Q0
  ·dsimp only; refine hI.ch.trans ?_; rw [hG]; (repeat first | exact Ch.refl _ | refine Ch.upd ?_ | refine Ch.app ?_ | assumption)
 ·refine A3 (A1 (wF rfl (E5 (E6 (D2 (C5 (A1 (A2 (A0 (J6 j5 (P9 j5 (A3 ?_))))))))))))
  refine A1 (B1 ?_)
  refine ⟨R, by omega, P4 (xs := [.view id 0 ln]) [id] rfl (.cons _ _ _ _ (.one _ _ (snapB (List.mem_singleton.2 rfl) q4 q3.symm)) .nil)⟩
theorem nb_ex (x : Int) (m : Nat) : ∃ R : List Int, R.length = m ∧ (m ≤ 8 → Pure En 139 [.one (.int .i64 x), .one (.int .i64 m)] [.one (.sl true (R.map bT))]) := by
 by_cases h : m ≤ 8
 ·obtain ⟨s, h1, h2⟩ := s139 x m h
  exact ⟨s, h1, fun _ => h2⟩
 ·exact ⟨List.replicate m 0, List.length_replicate .., fun h' => absurd h' h⟩
noncomputable def Nb (x : Int) (m : Nat) : List Int := Classical.choose (nb_ex x m)
theorem L9 (x : Int) (m : Nat) : (Nb x m).length = m := (Classical.choose_spec (nb_ex x m)).1
theorem q139 (x : Int) (m : Nat) (h : m ≤ 8) : Pure En 139 [.one (.int .i64 x), .one (.int .i64 m)] [.one (.sl true ((Nb x m).map bT))] := (Classical.choose_spec (nb_ex x m)).2 h
theorem o139m (x : Int) (m : Nat) (hm : m ≤ 8) (n : Nat) : OpenM En 139 [.int .i64 x, .int .i64 m] (fun _ => none) n (fun v g m1 => ∃ (R : List Int) (id : Nat), R.length = m ∧ g id = some ⟨R.map bV, 1, 5⟩ ∧ (n ≤ id ∧ id < m1) ∧ v = .view id 0 m) := by
 refine OpenM.of_wp Try.func139 rfl kb ?_
 refine A2 (A0 (Z4 j5 (A3 (A1 (A2 (A0 (T9 (es := []) j4 kz kb rfl rfl j3 (P9 j5 (A3 (A1 (A2 (A2 ?_))))))))))))
 refine A0 (B5 j5 (N6 j3 ?_ ?_ j3 ?_))
 ·exact Q29
 ·exact Q29
 refine D1 j5 (A3 (A1 (B4 (F0 ?_))))
 refine wlG fun g0 hg0 => ?_
 refine E4 (fun (a : NbS) => [.int .i64 x, .unk, .unk, .unk, .unk, .view a.id 0 a.ln, .int .i64 a.i]) (fun (a : NbS) => a.g) (fun (a : NbS) => a.m) (fun (a : NbS) => NbI m n (fun _ => none) a) (fun (a : NbS) => (a.i + 1).toNat) ⟨(m : Int) - 1, 0, [], n, n + 1, g0⟩ ?_ ?_ ?_ ?_ ?_
 ·refine ⟨by dsimp only; omega, by dsimp only; omega, rfl, ?_, by dsimp only; omega, ?_⟩
  ·dsimp only; rw [hg0]; exact Q0
  ·dsimp only; rw [hg0]; (repeat first | exact Ch.refl _ | refine Ch.upd ?_ | refine Ch.app ?_ | assumption)
 ·(repeat first | exact LE.nil _ | refine LE.unk _ _ ?_ | refine LE.eq _ _ _ rfl ?_)
 ·exact LessH.refl _
 ·exact Nat.le_refl _
 intro ⟨i, ln, R, id, m1, g⟩ hI ih
 have q1 := hI.i
 have q2 := hI.ln
 have q3 := hI.lR
 have q4 := hI.g
 have q5 := hI.id
 dsimp only at q1 q2 q3 q4 q5 ⊢
 refine E8 (A2 (A2 (A0 (B5 j5 ?_))))
 refine rge j6 ?_ ?_ <;> intro h3_1
 ·refine A3 (A1 (wT rfl (B2 (A1 (A2 (B4 (A0 (J6 j5 (B5 j5 (B5 j5 (rmulF j3 ?_ ?_ j3 ?_)))))))))))
  ·exact Q29
  ·exact Q29
  refine rcv j7 (rshr j3 ?_ j3 ?_)
  ·exact Q29
  refine rcv j7 (T9 (es := [[.int _ _]]) j4 kz kb rfl rfl j3 ?_)
  (apply rap (s' := 1) (es := [[.int _ _]]) rfl rfl; exact Q0; exact j2; (first | rfl | omega | (rw [List.length_map]; omega)); exact j2; exact kz; exact S4; exact AT; exact Q30; exact Q30; exact j3)
  refine P9 j5 (A3 (C0 (A1 ?_)))
  refine Z2 fun G hG => ?_
  refine A0 (B5 j5 (N6 j3 ?_ ?_ j3 ?_))
  ·exact Q29
  ·exact Q29
  refine D1 j5 (A3 (E3 ?_))
  refine I4 (ih ⟨i - 1, ln + 1, R ++ [bt8 x i], m1 + 1, m1 + 1 + 1, G⟩ ⟨by dsimp only; omega, by dsimp only; omega, by dsimp only; rw [List.length_append, q3]; rfl, ?_, by dsimp only; omega, ?_⟩ (by dsimp only; omega)) (by (repeat first | exact LE.nil _ | refine LE.unk _ _ ?_ | refine LE.eq _ _ _ rfl ?_)) (LessH.refl _) (Nat.le_refl _)
  ·dsimp only; rw [hG, List.map_append]; exact Q0
  ·dsimp only; refine hI.ch.trans ?_; rw [hG]; (repeat first | exact Ch.refl _ | refine Ch.upd ?_ | refine Ch.app ?_ | assumption)
 ·refine A3 (A1 (wF rfl (E5 (E6 (D2 (C5 (A1 (A2 (A0 (J6 j5 (P9 j5 (A3 ?_))))))))))))
  refine A1 (B1 (E0 (xs := [.view id 0 ln]) rfl hI.ch ⟨R, id, by omega, q4, by omega, ?_⟩))
  show V.view id 0 ln = _; rw [show ln = m by omega]
theorem o139 (x : Int) (m : Nat) (hm : m ≤ 8) (n : Nat) : ∃ (R : List Int) (id e : Nat), R.length = m ∧ (n ≤ id ∧ id < e) ∧ V.Open En 139 [.int .i64 x, .int .i64 m] (fun _ => none) n (.view id 0 m) [(id, some ⟨R.map bV, 1, 5⟩)] e := by
 obtain ⟨⟨v, wr, e⟩, ⟨R, id, h1, h2, h3, h4⟩, hO⟩ := o139m x m hm n
 dsimp only at h1 h2 h3 h4 hO
 subst h4
 refine ⟨R, id, e, h1, h3, V.Open.lessF hO fun i b hb => ?_⟩
 have hb : upd (fun _ => none) id (some ⟨R.map bV, 1, 5⟩) i = some b := hb
 by_cases e1 : i = id
 ·subst e1
  rw [upd_same] at hb
  cases hb
  refine ⟨_, h2, ?_⟩
  show _ = Blk.mk ((R.map bV).map (·.map fl1)) 1 5
  rw [List.map_map]; rfl
 ·rw [B8 _ _ e1] at hb; cases hb
open Go.V
set_option linter.unusedVariables false
set_option linter.unusedSimpArgs false
set_option maxRecDepth 20000
set_option maxHeartbeats 4000000
def isB (z : List (List V)) : Prop := ∃ R : List Int, z = R.map bV
theorem X8 {a b : List (List V)} (h : isB a) (k : isB b) : isB (a ++ b) := by
 obtain ⟨R, rfl⟩ := h; obtain ⟨S, rfl⟩ := k; exact ⟨R ++ S, List.map_append.symm⟩
theorem X9 (x : Int) : isB [[.int .u8 x]] := ⟨[x], rfl⟩
theorem Z7 {x : Int} {k : Nat} : isB (((Nb x k).map bT).map (·.map (T.toV true))) := ⟨_, rowsBf true _⟩
theorem V0 {s : ByteArray} : isB (s.data.toList.map fun b => [.int .u8 b.toNat]) := ⟨s.data.toList.map fun b => (b.toNat : Int), by rw [List.map_map]; rfl⟩
theorem J1 (s : ByteArray) : (s.data.toList.map fun b => [V.int .u8 (b.toNat : Int)]).length = s.size := by rw [List.length_map]; rfl
theorem isB_len {z : List (List V)} (h : isB z) : ∀ c ∈ z, c.length = 1 := by
 obtain ⟨R, rfl⟩ := h
 intro c hc
 obtain ⟨x, _, rfl⟩ := List.mem_map.1 hc
 rfl
@[reducible] noncomputable def nbL (x : Int) (k : Nat) : List (List V) := ((Nb x k).map bT).map (·.map (T.toV true))
@[reducible] def strL (s : ByteArray) : List (List V) := s.data.toList.map fun b => [V.int .u8 (b.toNat : Int)]
theorem flatOne {id : Nat} {R : List Int} : ∀ i b, app [(id, some ⟨R.map bV, 1, 5⟩)] (fun _ => none) i = some b → ∀ e ∈ b.es, ∀ x ∈ e, x.flat = true := by
 intro i b hb e he x hx
 have hb : upd (fun _ => none) id (some ⟨R.map bV, 1, 5⟩) i = some b := hb
 by_cases e1 : i = id
 ·rw [e1, upd_same] at hb
  cases hb
  obtain ⟨y, _, rfl⟩ := List.mem_map.1 he
  rw [List.mem_singleton.1 hx]; rfl
 ·exact absurd ((B8 _ _ e1).symm.trans hb) nofun
theorem I0 (s : ByteArray) : s.data.toList.length = s.size := rfl
structure BtS where
 i : Nat
 ln : Nat
 id : Nat
 m : Nat
 g : Heap
structure BtI (B : Nat) (tb : Blk) (a : BtS) : Prop where
 ln : a.ln ≤ B
 R : ∃ R : List (List V), a.g a.id = some ⟨R, 1, 5⟩ ∧ isB R ∧ R.length = a.ln
 g0 : a.g 0 = some tb
 id : 1 ≤ a.id ∧ a.id < a.m
theorem s114 (t : Tb) (b n1 n2 : Bool) (ht : t.OK) : ∃ R : List Int, True ∧ Pure En 114 [.agg (t.T b n1 n2)] [.one (.sl true (R.map bT))] := by
 have h1 := ht.2.2.1
 have h2 := ht.2.2.2.1
 have hl1 : (t.lk.map (Lk.T b)).length = t.lk.length := List.length_map ..
 have hl2 : (t.sn.map Sn.T).length = t.sn.length := List.length_map ..
 refine Pure.of_wpX Try.func114 rfl kb ?_
 refine A2 (A0 ?_)
 (refine K7 (u := .agg [.int .i64 t.tm, .int .i64 t.nx, .sl false n1 (t.lk.map (Lk.T b)), .sl false n2 (t.sn.map Sn.T)]) j3 rfl j3 ?_)
 refine Z4 j5 (A3 (A1 (A2 ?_)))
 obtain ⟨R0, id0, e0, z1, z2, O0⟩ := o139 t.tm 4 kb (0 + 1)
 refine B9 [0, 1, 3, 0, 8, 31, 63, 127] rfl (by decide +kernel) ?_
 refine C9 (off := 0) (s := 1) (r := false) j3 kz j3 ?_
 (apply D5 (v := .int _ _) j2; exact Q0; exact C8; exact j5)
 (apply dfr O0 rfl j2; (intro x hx; simp only [List.mem_cons, List.not_mem_nil, or_false] at hx; rcases hx with rfl | rfl <;> rfl); rfl; exact flatOne; exact List.cons_ne_nil _ _; exact j3)
 refine C9 (off := 1) (s := 1) (r := false) j3 kz j3 ?_
 (apply D5 (v := .int _ _) j2; exact Q0; exact C8; exact j5)
 refine dcl (q139 _ 3 kb) rfl j5 ?_
 (apply T6 (s' := 1)  rfl rfl; exact Q0; exact j2; exact Q17; exact j2; exact kz; exact S4; exact Q15; exact Q6; exact Q6; exact j3)
 refine daV j5 (B3 8 [0, 3, 0, 1, 0, 3, 1, 0] [(2, 4)] j2 (by decide +kernel) ?_ ?_)
 ·exact Q31
 refine A1 (A2 (A0 (J6 j5 (C2 (off := 2) (s := 1) (r := false) j3 kz j3 ?_))))
 (apply C6 (v := .sl _ _ _) j2; exact Q0; exact C8; exact j5)
 refine G7 rfl rfl rfl j3 (rcv j7 (T9 (es := [[.int _ _]]) j4 kz kb rfl rfl j3 ?_))
 (apply rap (s' := 1) (es := [[.int _ _]]) rfl rfl; exact Q0; exact j2; exact Q17; exact j2; exact kz; exact S4; exact Q15; exact Q6; exact Q6; exact j3)
 refine P9 j5 (A3 (A1 (A2 (A2 (A0 (D1 j5 (A3 (A1 (B4 (F0 ?_))))))))))
 refine wlG fun g0 hg0 => ?_
 have hb0 : isB (R0.map bV) := ⟨_, rfl⟩
 refine E4 (fun (a : BtS) => [.unk, .ptr 0 0 0, .unk, .view a.id 0 a.ln, .int .i64 a.i]) (fun (a : BtS) => a.g) (fun (a : BtS) => a.m) (fun (a : BtS) => a.i ≤ t.lk.length ∧ BtI (10 + 50 * a.i) ⟨[[.int .i64 t.tm, .int .i64 t.nx, .sl false n1 (t.lk.map (Lk.T b)), .sl false n2 (t.sn.map Sn.T)]], 4, 35⟩ a) (fun (a : BtS) => t.lk.length - a.i) ⟨0, 4 + (nbL t.nx 3).length + 1, e0 + 1 + 1, e0 + 1 + 1 + 1, g0⟩ ?_ ?_ ?_ ?_ ?_
 ·refine ⟨Nat.zero_le _, ?_⟩
  refine ⟨?_, ⟨_, (by rw [hg0]; exact Q0), ?_, ?_⟩, (by rw [hg0]; exact Q0), (by dsimp only; omega)⟩
  ·(try dsimp only); (try simp only [List.drop_zero, List.length_append, List.length_cons, List.length_nil, List.length_map, L9, J1, I0]); omega
  ·(try simp only [List.drop_zero]); (repeat first | assumption | exact X9 _ | exact Z7 | exact V0 | apply X8)
  ·(try dsimp only); (try simp only [List.drop_zero, List.length_append, List.length_cons, List.length_nil, List.length_map, L9, J1, I0]); omega
 ·(repeat first | exact LE.nil _ | refine LE.unk _ _ ?_ | refine LE.eq _ _ _ rfl ?_)
 ·exact LessH.refl _
 ·exact Nat.le_refl _
 intro ⟨i, ln, id, m, g⟩ hI ih
 have ih0 := ih
 have q0 := hI.1
 have q1 := hI.2.ln
 obtain ⟨R, q2, q3, q4⟩ := hI.2.R
 have q5 := hI.2.g0
 have q6 := hI.2.id
 dsimp only at q0 q1 q2 q4 q5 q6 ⊢
 have hl5 : ((t.lk.getD i Lk0).ws.map wtT).length = (t.lk.getD i Lk0).ws.length := List.length_map ..
 have hln : i < t.lk.length → (t.lk.getD i Lk0).nm.size ≤ 12 ∧ (t.lk.getD i Lk0).ws.length ≤ 4 ∧ (-1 ≤ (t.lk.getD i Lk0).hd ∧ (t.lk.getD i Lk0).hd ≤ 255) := fun h => ⟨(ht.2.2.2.2.1 i h).1.1.1, OKw ht h, (ht.2.2.2.2.1 i h).1.2.2.1⟩
 refine E8 (A2 (A2 (A0 (B5 j5 (C2 (off := 2) (s := 1) (r := false) j3 kz j3 ?_)))))
 (apply C6 (v := .sl _ _ _) j2; exact Q0; exact C8; exact j5)
 refine G7 rfl rfl rfl j3 ?_
 refine H9 j6 ?_ ?_ <;> intro h4_4
 ·refine A3 (A1 (wT rfl (B2 (A1 (A2 (B4 (A2 (A0 (C2 (off := 2) (s := 1) (r := false) j3 kz j3 ?_)))))))))
  (apply C6 (v := .sl _ _ _) j2; exact Q0; exact C8; exact j5)
  refine B5 j5 ?_
  (apply K8 j4; exact V8; exact Q44; exact j4)
  refine N4 (vs := [.str _, .int _ _, .int _ _, .int _ _, _]) j3 kb j4 (H3 j6 ?_)
  (apply D6 (u := .agg [.str _, .int _ _, .int _ _, .int _ _, _]) j3; exact Q0; exact C8; rfl; rfl; rfl; rfl; exact kb; rfl; exact j2)
  refine A3 (A1 (A2 ?_))
  have hl3 := hln (by omega)
  refine B9 [0, 0, 2, 6, 14, 30, 63, 0, 128, 511, 1023] rfl (by decide +kernel) ?_
  refine dmV j5 (C9 (off := 0) (s := 1) (r := false) j3 kz j3 ?_)
  (apply D5 (v := .str _) j2; exact Q0; exact C8; exact j5)
  refine dls rfl j5 (dcv j7 (X6 (es := [[.int _ _]]) j4 kz kb rfl rfl j3 ?_))
  (apply T6 (s' := 1) (es := [[.int _ _]]) rfl rfl; exact Q0; exact j2; exact Q17; exact j2; exact kz; exact S4; exact Q15; exact Q6; exact Q6; exact j3)
  refine C9 (off := 0) (s := 1) (r := false) j3 kz j3 ?_
  (apply D5 (v := .str _) j2; exact Q0; exact C8; exact j5)
  (apply T6 (s' := 1)  rfl rfl; exact Q0; exact j2; exact Q17; exact j2; exact kz; exact S4; exact Q15; exact Q6; exact Q6; exact j3)
  refine daV j5 (B3 11 [0, 3, 1, 0, 3, 3, 0, 0, 1, 0, 0] [(5, 8), (6, 8)] j2 (by decide +kernel) ?_ ?_)
  ·exact Q31
  refine A1 (A2 (B9 [0, 0, 2, 6, 15, 0, 32, 96, 255, 511, 1023] rfl (by decide +kernel) ?_))
  refine dmV j5 (C9 (off := 1) (s := 1) (r := false) j3 kz j3 ?_)
  (apply D5 (v := .int _ _) j2; exact Q0; exact C8; exact j5)
  refine dcl (q139 _ 3 kb) rfl j5 ?_
  (apply T6 (s' := 1)  rfl rfl; exact Q0; exact j2; exact Q17; exact j2; exact kz; exact S4; exact Q15; exact Q6; exact Q6; exact j3)
  refine C9 (off := 2) (s := 1) (r := false) j3 kz j3 ?_
  (apply D5 (v := .int _ _) j2; exact Q0; exact C8; exact j5)
  refine T5 j3 ?_ ?_ j3 ?_
  ·omega
  ·omega
  refine dcl (q139 _ 2 kb) rfl j5 ?_
  (apply T6 (s' := 1)  rfl rfl; exact Q0; exact j2; exact Q17; exact j2; exact kz; exact S4; exact Q15; exact Q6; exact Q6; exact j3)
  refine daV j5 (B3 11 [0, 3, 0, 0, 1, 0, 3, 0, 1, 0, 0] [(4, 6)] j2 (by decide +kernel) ?_ ?_)
  ·exact Q31
  refine A1 (A2 (B9 [0, 0, 2, 6, 15, 0, 32, 96, 224, 480, 1023, 2047] rfl (by decide +kernel) ?_))
  refine dmV j5 (C9 (off := 3) (s := 1) (r := false) j3 kz j3 ?_)
  (apply D5 (v := .int _ _) j2; exact Q0; exact C8; exact j5)
  refine dcl (q139 _ 4 kb) rfl j5 ?_
  (apply T6 (s' := 1)  rfl rfl; exact Q0; exact j2; exact Q17; exact j2; exact kz; exact S4; exact Q15; exact Q6; exact Q6; exact j3)
  refine C9 (off := 4) (s := 1) (r := false) j3 kz j3 ?_
  (apply D5 (v := .sl _ _ _) j2; exact Q0; exact C8; exact j5)
  refine dll rfl rfl rfl j3 (dcv j7 (X6 (es := [[.int _ _]]) j4 kz kb rfl rfl j3 ?_))
  (apply T6 (s' := 1) (es := [[.int _ _]]) rfl rfl; exact Q0; exact j2; exact Q17; exact j2; exact kz; exact S4; exact Q15; exact Q6; exact Q6; exact j3)
  refine daV j5 (B3 12 [0, 3, 3, 0, 0, 1, 0, 3, 0, 1, 0, 0] [(4, 6), (2, 9), (4, 9)] j2 (by decide +kernel) ?_ ?_)
  ·exact Q31
  refine A1 (A2 (A0 (D1 j5 (A3 (A1 (B4 (F0 ?_)))))))
  refine wlG fun g1 hg1 => ?_
  refine E4 (fun (c : BtS) => [.unk, .ptr 0 0 0, .unk, .view c.id 0 c.ln, .int .i64 i, .ptr m 0 0, .int .i64 c.i]) (fun (c : BtS) => c.g) (fun (c : BtS) => c.m) (fun (c : BtS) => c.i ≤ (t.lk.getD i Lk0).ws.length ∧ BtI (10 + 50 * i + 24 + 3 * c.i) ⟨[[.int .i64 t.tm, .int .i64 t.nx, .sl false n1 (t.lk.map (Lk.T b)), .sl false n2 (t.sn.map Sn.T)]], 4, 35⟩ c ∧ c.g m = some ⟨[[.str (t.lk.getD i Lk0).nm, .int .i64 (t.lk.getD i Lk0).tk, .int .i64 (t.lk.getD i Lk0).hd, .int .i64 (t.lk.getD i Lk0).ex, .sl false b ((t.lk.getD i Lk0).ws.map wtT)]], 5, 29⟩ ∧ m < c.id) (fun (c : BtS) => (t.lk.getD i Lk0).ws.length - c.i) ⟨0, ln + 1 + (strL (t.lk.getD i Lk0).nm).length + (nbL (t.lk.getD i Lk0).tk 3).length + (nbL ((t.lk.getD i Lk0).hd + 1) 2).length + (nbL (t.lk.getD i Lk0).ex 4).length + 1, m + 1 + 1 + 1 + 1 + 1 + 1 + 1 + 1, m + 1 + 1 + 1 + 1 + 1 + 1 + 1 + 1 + 1, g1⟩ ?_ ?_ ?_ ?_ ?_
  ·refine ⟨Nat.zero_le _, ?_, (by dsimp only; rw [hg1]; exact Q0), by dsimp only; omega⟩
   refine ⟨?_, ⟨_, (by rw [hg1]; exact Q0), ?_, ?_⟩, (by rw [hg1]; exact Q0), (by dsimp only; omega)⟩
   ·(try dsimp only); (try simp only [List.drop_zero, List.length_append, List.length_cons, List.length_nil, List.length_map, L9, J1, I0]); omega
   ·(try simp only [List.drop_zero]); (repeat first | assumption | exact X9 _ | exact Z7 | exact V0 | apply X8)
   ·(try dsimp only); (try simp only [List.drop_zero, List.length_append, List.length_cons, List.length_nil, List.length_map, L9, J1, I0]); omega
  ·(repeat first | exact LE.nil _ | refine LE.unk _ _ ?_ | refine LE.eq _ _ _ rfl ?_)
  ·exact LessH.refl _
  ·exact Nat.le_refl _
  intro ⟨j, ln2, id2, m2, g2⟩ hI ih
  have p0 := hI.1
  have p1 := hI.2.1.ln
  obtain ⟨R2, p2, p3, p4⟩ := hI.2.1.R
  have p5 := hI.2.1.g0
  have p6 := hI.2.1.id
  have p7 := hI.2.2.1
  have p8 := hI.2.2.2
  dsimp only at p0 p1 p2 p4 p5 p6 p7 p8 ⊢
  refine E8 (A2 (A2 (A0 (B5 j5 (C2 (off := 4) (s := 1) (r := false) j3 kz j3 ?_)))))
  (apply C6 (v := .sl _ _ _) j2; exact Q0; exact C8; exact j5)
  refine G7 rfl rfl rfl j3 ?_
  refine H9 j6 ?_ ?_ <;> intro h11_4
  ·refine A3 (A1 (wT rfl (B2 (A1 (A2 (B4 (B9 [0, 0, 2, 0, 14, 30, 62, 126, 254, 511, 0, 1024, 0, 7168, 15360, 31744, 65535, 131071, 262143] rfl (by decide +kernel) ?_)))))))
   refine dmV j5 (C9 (off := 4) (s := 1) (r := false) j3 kz j3 ?_)
   (apply D5 (v := .sl _ _ _) j2; exact Q0; exact C8; exact j5)
   refine I2 j5 ?_
   (apply O4 j4; exact V8; exact Q44; exact j4)
   refine dfai (off := 0) (s := 1) (r := false) j3 kz j4 (V7 (v := .int _ _) j8 (dcv j7 (X6 (es := [[.int _ _]]) j4 kz kb rfl rfl j3 ?_)))
   (apply T6 (s' := 1) (es := [[.int _ _]]) rfl rfl; exact Q0; exact j2; exact Q17; exact j2; exact kz; exact S4; exact Q15; exact Q6; exact Q6; exact j3)
   refine C9 (off := 4) (s := 1) (r := false) j3 kz j3 ?_
   (apply D5 (v := .sl _ _ _) j2; exact Q0; exact C8; exact j5)
   refine I2 j5 ?_
   (apply O4 j4; exact V8; exact Q44; exact j4)
   refine dfai (off := 1) (s := 1) (r := false) j3 kz j4 (V7 (v := .int _ _) j8 (dcl (q139 _ 2 kb) rfl j5 ?_))
   (apply T6 (s' := 1)  rfl rfl; exact Q0; exact j2; exact Q17; exact j2; exact kz; exact S4; exact Q15; exact Q6; exact Q6; exact j3)
   refine daV j5 (B3 19 [0, 3, 0, 0, 0, 0, 0, 1, 0, 3, 3, 0, 0, 0, 0, 0, 1, 0, 0] [(8, 11), (9, 11)] j2 (by decide +kernel) ?_ ?_)
   ·exact Q31
   refine C0 (A1 ?_)
   refine Z2 fun G2 hG2 => ?_
   refine A0 (B5 j5 (D0 j3 ?_ ?_ j3 ?_))
   ·omega
   ·omega
   refine D1 j5 (A3 (E3 ?_))
   refine I4 (ih ⟨j + 1, ln2 + 1 + (nbL ((t.lk.getD i Lk0).ws.getD j (0, 0)).2 2).length, m2 + 1 + 1, m2 + 1 + 1 + 1, G2⟩ ⟨by dsimp only; omega, ?_, (by dsimp only; rw [hG2]; exact Q0), by dsimp only; omega⟩ (by dsimp only; omega)) (by (repeat first | exact LE.nil _ | refine LE.unk _ _ ?_ | refine LE.eq _ _ _ rfl ?_)) (LessH.refl _) (Nat.le_refl _)
   refine ⟨?_, ⟨_, (by rw [hG2]; exact Q0), ?_, ?_⟩, (by rw [hG2]; exact Q0), (by dsimp only; omega)⟩
   ·(try dsimp only); (try simp only [List.drop_zero, List.length_append, List.length_cons, List.length_nil, List.length_map, L9, J1, I0]); omega
   ·(try simp only [List.drop_zero]); (repeat first | assumption | exact X9 _ | exact Z7 | exact V0 | apply X8)
   ·(try dsimp only); (try simp only [List.drop_zero, List.length_append, List.length_cons, List.length_nil, List.length_map, L9, J1, I0]); omega
  ·refine A3 (A1 (wF rfl (E5 (E6 (D2 (C5 (C0 (A1 (A0 (B5 j5 (D0 j3 ?_ ?_ j3 ?_)))))))))))
   ·omega
   ·omega
   refine D1 j5 (A3 (E3 ?_))
   exact I4 (ih0 ⟨i + 1, ln2, id2, m2, g2⟩ ⟨by dsimp only; omega, ⟨by dsimp only; omega, ⟨R2, p2, p3, p4⟩, p5, by dsimp only; omega⟩⟩ (by dsimp only; omega)) (by (repeat first | exact LE.nil _ | refine LE.unk _ _ ?_ | refine LE.eq _ _ _ rfl ?_)) (LessH.refl _) (Nat.le_refl _)
 ·refine A3 (A1 (wF rfl (E5 (E6 (D2 (C5 (A1 (A2 (A0 (J6 j5 (C2 (off := 3) (s := 1) (r := false) j3 kz j3 ?_)))))))))))
  (apply C6 (v := .sl _ _ _) j2; exact Q0; exact C8; exact j5)
  refine G7 rfl rfl rfl j3 (rcv j7 (T9 (es := [[.int _ _]]) j4 kz kb rfl rfl j3 ?_))
  (apply rap (s' := 1) (es := [[.int _ _]]) rfl rfl; exact Q0; exact j2; exact Q17; exact j2; exact kz; exact S4; exact Q15; exact Q6; exact Q6; exact j3)
  refine P9 j5 (A3 (A1 (A2 (A2 (A0 (D1 j5 (A3 (A1 (B4 (F0 ?_))))))))))
  refine wlG fun g3 hg3 => ?_
  refine E4 (fun (a : BtS) => [.unk, .ptr 0 0 0, .unk, .view a.id 0 a.ln, .unk, .unk, .unk, .int .i64 a.i]) (fun (a : BtS) => a.g) (fun (a : BtS) => a.m) (fun (a : BtS) => a.i ≤ t.sn.length ∧ BtI (300 + 20 * a.i) ⟨[[.int .i64 t.tm, .int .i64 t.nx, .sl false n1 (t.lk.map (Lk.T b)), .sl false n2 (t.sn.map Sn.T)]], 4, 35⟩ a) (fun (a : BtS) => t.sn.length - a.i) ⟨0, ln + 1, m + 1, m + 1 + 1, g3⟩ ?_ ?_ ?_ ?_ ?_
  ·refine ⟨Nat.zero_le _, ?_⟩
   refine ⟨?_, ⟨_, (by rw [hg3]; exact Q0), ?_, ?_⟩, (by rw [hg3]; exact Q0), (by dsimp only; omega)⟩
   ·(try dsimp only); (try simp only [List.drop_zero, List.length_append, List.length_cons, List.length_nil, List.length_map, L9, J1, I0]); omega
   ·(try simp only [List.drop_zero]); (repeat first | assumption | exact X9 _ | exact Z7 | exact V0 | apply X8)
   ·(try dsimp only); (try simp only [List.drop_zero, List.length_append, List.length_cons, List.length_nil, List.length_map, L9, J1, I0]); omega
  ·(repeat first | exact LE.nil _ | refine LE.unk _ _ ?_ | refine LE.eq _ _ _ rfl ?_)
  ·exact LessH.refl _
  ·exact Nat.le_refl _
  intro ⟨i, ln, id, m, g⟩ hI ih
  have q0 := hI.1
  have q1 := hI.2.ln
  obtain ⟨R, q2, q3, q4⟩ := hI.2.R
  have q5 := hI.2.g0
  have q6 := hI.2.id
  dsimp only at q0 q1 q2 q4 q5 q6 ⊢
  have hsn : i < t.sn.length → (t.sn.getD i Sn0).an.OK := fun h => (ht.2.2.2.2.2 i h).1.2.2
  refine E8 (A2 (A2 (A0 (B5 j5 (C2 (off := 3) (s := 1) (r := false) j3 kz j3 ?_)))))
  (apply C6 (v := .sl _ _ _) j2; exact Q0; exact C8; exact j5)
  refine G7 rfl rfl rfl j3 ?_
  refine H9 j6 ?_ ?_ <;> intro h16_4
  ·refine A3 (A1 (wT rfl (B2 (A1 (A2 (B4 (A2 (A0 (C2 (off := 3) (s := 1) (r := false) j3 kz j3 ?_)))))))))
   (apply C6 (v := .sl _ _ _) j2; exact Q0; exact C8; exact j5)
   refine B5 j5 ?_
   (apply K8 j4; exact V8; exact Q44; exact j4)
   refine N4 (vs := [.int _ _, .int _ _, .int _ _, .int _ _, .int _ _, .int _ _]) j3 kb j4 (H3 j6 ?_)
   (apply D6 (u := .agg [.int _ _, .int _ _, .int _ _, .int _ _, .int _ _, .int _ _]) j3; exact Q0; exact C8; rfl; rfl; rfl; rfl; exact kb; rfl; exact j2)
   refine A3 (A1 (A2 ?_))
   have hs3 := hsn (by omega)
   unfold An.OK at hs3
   refine B9 [0, 0, 2, 6, 14, 31, 0, 64, 255, 511, 1023] rfl (by decide +kernel) ?_
   refine dmV j5 (C9 (off := 0) (s := 1) (r := false) j3 kz j3 ?_)
   (apply D5 (v := .int _ _) j2; exact Q0; exact C8; exact j5)
   refine dcv j7 (X6 (es := [[.int _ _]]) j4 kz kb rfl rfl j3 ?_)
   (apply T6 (s' := 1) (es := [[.int _ _]]) rfl rfl; exact Q0; exact j2; exact Q17; exact j2; exact kz; exact S4; exact Q15; exact Q6; exact Q6; exact j3)
   refine C9 (off := 1) (s := 1) (r := false) j3 kz j3 ?_
   (apply D5 (v := .int _ _) j2; exact Q0; exact C8; exact j5)
   refine dcl (q139 _ 2 kb) rfl j5 ?_
   (apply T6 (s' := 1)  rfl rfl; exact Q0; exact j2; exact Q17; exact j2; exact kz; exact S4; exact Q15; exact Q6; exact Q6; exact j3)
   refine daV j5 (B3 11 [0, 3, 0, 1, 0, 3, 3, 0, 1, 0, 0] [(4, 7), (5, 7)] j2 (by decide +kernel) ?_ ?_)
   ·exact Q31
   refine A1 (A2 (B9 [0, 0, 2, 6, 14, 30, 63, 0, 128, 384, 1023, 2047, 4095] rfl (by decide +kernel) ?_))
   refine dmV j5 (C9 (off := 2) (s := 4) (r := true) j3 kz j3 (C9 (off := 0) (s := 1) (r := false) j3 kz j3 ?_))
   (apply D5 (v := .int _ _) j2; exact Q0; exact C8; exact j5)
   refine dcv j7 (X6 (es := [[.int _ _]]) j4 kz kb rfl rfl j3 ?_)
   (apply T6 (s' := 1) (es := [[.int _ _]]) rfl rfl; exact Q0; exact j2; exact Q17; exact j2; exact kz; exact S4; exact Q15; exact Q6; exact Q6; exact j3)
   refine C9 (off := 2) (s := 4) (r := true) j3 kz j3 (C9 (off := 1) (s := 1) (r := false) j3 kz j3 ?_)
   (apply D5 (v := .int _ _) j2; exact Q0; exact C8; exact j5)
   refine dcl (q139 _ 3 kb) rfl j5 ?_
   (apply T6 (s' := 1)  rfl rfl; exact Q0; exact j2; exact Q17; exact j2; exact kz; exact S4; exact Q15; exact Q6; exact Q6; exact j3)
   refine daV j5 (B3 13 [0, 3, 0, 1, 0, 0, 3, 3, 0, 1, 0, 0, 0] [(5, 9), (6, 9)] j2 (by decide +kernel) ?_ ?_)
   ·exact Q31
   refine A1 (B9 [0, 0, 2, 6, 14, 30, 63, 0, 128, 384, 1023, 2047, 4095] rfl (by decide +kernel) ?_)
   refine dmV j5 (C9 (off := 2) (s := 4) (r := true) j3 kz j3 (C9 (off := 2) (s := 1) (r := false) j3 kz j3 ?_))
   (apply D5 (v := .int _ _) j2; exact Q0; exact C8; exact j5)
   refine T5 j3 ?_ ?_ j3 ?_
   ·omega
   ·omega
   refine dcl (q139 _ 2 kb) rfl j5 ?_
   (apply T6 (s' := 1)  rfl rfl; exact Q0; exact j2; exact Q17; exact j2; exact kz; exact S4; exact Q15; exact Q6; exact Q6; exact j3)
   refine C9 (off := 2) (s := 4) (r := true) j3 kz j3 (C9 (off := 3) (s := 1) (r := false) j3 kz j3 ?_)
   (apply D5 (v := .int _ _) j2; exact Q0; exact C8; exact j5)
   refine dcl (q139 _ 4 kb) rfl j5 ?_
   (apply T6 (s' := 1)  rfl rfl; exact Q0; exact j2; exact Q17; exact j2; exact kz; exact S4; exact Q15; exact Q6; exact Q6; exact j3)
   refine daV j5 (B3 13 [0, 3, 0, 1, 0, 0, 3, 0, 0, 1, 0, 0, 0] [(6, 9)] j2 (by decide +kernel) ?_ ?_)
   ·exact Q31
   refine C0 (A1 ?_)
   refine Z2 fun G3 hG3 => ?_
   refine A0 (B5 j5 (D0 j3 ?_ ?_ j3 ?_))
   ·omega
   ·omega
   refine D1 j5 (A3 (E3 ?_))
   refine I4 (ih ⟨i + 1, ln + 1 + (nbL (t.sn.getD i Sn0).st 2).length + 1 + (nbL (t.sn.getD i Sn0).an.tk 3).length + (nbL ((t.sn.getD i Sn0).an.hd + 1) 2).length + (nbL (t.sn.getD i Sn0).an.ex 4).length, m + 1 + 1 + 1 + 1 + 1 + 1 + 1 + 1, m + 1 + 1 + 1 + 1 + 1 + 1 + 1 + 1 + 1, G3⟩ ⟨by dsimp only; omega, ?_⟩ (by dsimp only; omega)) (by (repeat first | exact LE.nil _ | refine LE.unk _ _ ?_ | refine LE.eq _ _ _ rfl ?_)) (LessH.refl _) (Nat.le_refl _)
   refine ⟨?_, ⟨_, (by rw [hG3]; exact Q0), ?_, ?_⟩, (by rw [hG3]; exact Q0), (by dsimp only; omega)⟩
   ·(try dsimp only); (try simp only [List.drop_zero, List.length_append, List.length_cons, List.length_nil, List.length_map, L9, J1, I0]); omega
   ·(try simp only [List.drop_zero]); (repeat first | assumption | exact X9 _ | exact Z7 | exact V0 | apply X8)
   ·(try dsimp only); (try simp only [List.drop_zero, List.length_append, List.length_cons, List.length_nil, List.length_map, L9, J1, I0]); omega
  ·refine A3 (A1 (wF rfl (E5 (E6 (D2 (C5 (A1 (A2 (A0 (J6 j5 (P9 j5 (A3 ?_))))))))))))
   refine A1 (B1 ?_)
   obtain ⟨RR, e⟩ := q3
   subst e
   exact ⟨RR, trivial, P4 (xs := [.view id 0 ln]) [id] rfl (.cons _ _ _ _ (.one _ _ (snapB (List.mem_singleton.2 rfl) q2 (by rw [← q4, List.length_map]))) .nil)⟩
open Go.V
set_option linter.unusedVariables false
set_option linter.unusedSimpArgs false
set_option maxRecDepth 20000
set_option maxHeartbeats 4000000
theorem s74 (t : Tb) (b n1 n2 : Bool) (ht : t.OK) : ∃ R : List Int, True ∧ Pure En 74 [.agg (t.T b n1 n2)] [.one (.sl true (R.map bT)), .one (.int .i64 0)] := by
 obtain ⟨R, _, hR⟩ := s114 t b n1 n2 ht
 refine Pure.of_wpX Try.func74 rfl kb ?_
 refine A2 (A0 ?_)
 (refine K7 (u := .agg [.int .i64 t.tm, .int .i64 t.nx, .sl false n1 (t.lk.map (Lk.T b)), .sl false n2 (t.sn.map Sn.T)]) j3 rfl j3 ?_)
 refine Z4 j5 (D1 j5 (A3 (A1 (A2 (A2 (A0 ?_))))))
 (apply F7 (vs := [.int _ _, .int _ _, _, _]) j2; exact Q0; exact C8; rfl; exact kb; rfl; exact j3)
 refine F3 (s42 t b n1 n2) rfl j5 ?_ ?_ <;> intro h1_1
 ·refine E1 (c := true) j5 (A3 (A1 (wF rfl (B2 (A1 (A2 (A0 ?_)))))))
  (apply F7 (vs := [.int _ _, .int _ _, _, _]) j2; exact Q0; exact C8; rfl; exact kb; rfl; exact j3)
  refine AS hR rfl j5 (raL j5 (D1 j5 (A3 (A1 (B1 ?_)))))
  exact ⟨R, trivial, fin rfl rfl⟩
 ·refine E1 (c := false) j5 (A3 (A1 (wT rfl (A2 ?_))))
  exact absurd ht h1_1
theorem s31 (t : Tb) (b n1 n2 : Bool) (ht : t.OK) : Pure En 31 [.agg (t.T b n1 n2), .agg (t.T b n1 n2)] [.one (.bool true)] := by
 obtain ⟨R, _, hR⟩ := s74 t b n1 n2 ht
 refine Pure.of_wp Try.func31 rfl kb ?_
 refine A2 (A0 ?_)
 (refine K7 (u := .agg [.int .i64 t.tm, .int .i64 t.nx, .sl false n1 (t.lk.map (Lk.T b)), .sl false n2 (t.sn.map Sn.T)]) j3 rfl j3 ?_)
 (refine K7 (u := .agg [.int .i64 t.tm, .int .i64 t.nx, .sl false n1 (t.lk.map (Lk.T b)), .sl false n2 (t.sn.map Sn.T)]) j3 rfl j3 ?_)
 refine C3 j5 (A3 (A1 (A2 (A0 ?_))))
 (apply F7 (vs := [.int _ _, .int _ _, _, _]) j2; exact Q0; exact C8; rfl; exact kb; rfl; exact j3)
 refine AS hR rfl j5 (rmT j5 (T8 j6 (T8 j6 (raL j5 (D1 j5 (A3 (A1 (A2 (A0 ?_)))))))))
 (apply F7 (vs := [.int _ _, .int _ _, _, _]) j2; exact Q0; exact C8; rfl; exact kb; rfl; exact j3)
 refine AS hR rfl j5 (rmT j5 (T8 j6 (T8 j6 (raL j5 (D1 j5 (A3 (A1 (A2 (A0 (B5 j5 ?_))))))))))
 refine H5 j6 ?_ (fun h => absurd (rfl) h)
 intro h3_1
 refine C7 j5 (B5 j5 ?_)
 refine H5 j6 ?_ (fun h => absurd (rfl) h)
 intro h3_4
 refine B7 (e := true) j6 (C7 j5 (J7 j5 ?_))
 (apply rsg j4; rfl; (intro s e; cases e); exact rowsBf true R; exact j3)
 refine J7 j5 ?_
 (apply rsg j4; rfl; (intro s e; cases e); exact rowsBf true R; exact j3)
 refine rseq j6 ?_ (fun h => absurd (rfl) h)
 intro h3_11
 refine B7 (e := true) j6 (C3 j5 (A3 (A1 (B1 ?_))))
 exact fin rfl rfl
open Go.V
set_option linter.unusedVariables false
set_option linter.unusedSimpArgs false
set_option maxRecDepth 20000
set_option maxHeartbeats 4000000
open Go.V
set_option linter.unusedVariables false
set_option linter.unusedSimpArgs false
set_option maxRecDepth 20000
set_option maxHeartbeats 4000000
theorem lksN_all (L : List Lk) : lksN (fun _ => true) L = L.map (Lk.T true) := by
 refine List.ext_getElem? fun i => ?_
 rcases Nat.lt_or_ge i L.length with h | h
 ·rw [I1 h, List.getElem?_map, List.getElem?_eq_getElem h, List.getD_eq_getElem?_getD, List.getElem?_eq_getElem h]; rfl
 ·rw [List.getElem?_eq_none (by rw [K5]; exact h), List.getElem?_eq_none (by rw [List.length_map]; exact h)]
theorem TbN_all (t : Tb) : t.N (fun _ => true) true true = t.T true true true := by unfold Tb.N Tb.T; rw [lksN_all]; rfl
end Go.Proofs.Ytknnniaoboaghaa
