import Derived.Test.YteifdelnahccjaaGreatDoorW10
namespace Go.Proofs.YteifdelnahccjaaGreatDoor
open Go.V
set_option linter.unusedVariables false
set_option linter.unusedSimpArgs false
set_option maxRecDepth 20000
set_option maxHeartbeats 4000000
def plL (r : Rp) : List Int := [114, 101, 112, 108, 121] ++ [IntKind.u8.wrap r.cl] ++ numL r.st 2 ++ [IntKind.u8.wrap r.an.kd] ++ numL r.an.tk 3 ++ numL (r.an.hd + 1) 2 ++ numL r.an.ex 4
theorem Z0 (r : Rp) : (plL r).length = 18 := by
 unfold plL; simp only [List.length_append, C2, List.length_cons, List.length_nil]
theorem one_bytes (x : Int) : bytes [IntKind.u8.wrap x] := fun b hb => by rw [List.mem_singleton] at hb; subst hb; exact u8_in _
theorem plL_bytes (r : Rp) : bytes (plL r) := by
 unfold plL
 refine E4 (E4 (E4 (E4 (E4 (E4 ?_ (one_bytes _)) (G5 _ 2 (by decide))) (one_bytes _)) (G5 _ 3 (by decide))) (G5 _ 2 (by decide))) (G5 _ 4 (by decide))
 intro b hb
 simp only [List.mem_cons, List.not_mem_nil, or_false] at hb
 omega
theorem plL_str (r : Rp) : strOw (plL r) = lit2 ++ Nm r.cl 1 ++ Nm r.st 2 ++ atx r.an := by
 unfold plL atx
 simp only [E8, S9, AB, ByteArray.append_assoc]
 rfl
theorem s92 (r : Rp) (hr : r.ok) : Pure En 301 [.agg r.T] [.one (.sl true ((plL r).map bT))] := by
 have h1 := hr.2.2.2
 unfold An.OK at h1
 refine Pure.of_ev (st := []) Tryz.func301 rfl kb ?_
 refine F7 (es := [[.int _ _], [.int _ _], [.int _ _], [.int _ _], [.int _ _]]) j4 kz kb rfl rfl ?_
 (apply emk8 j2; exact Q0; rfl; exact ⟨rfl, rfl⟩)
 refine A1 ?_
 refine F7 (es := [[.int _ _]]) j4 kz kb rfl rfl ?_
 (apply eap (s' := 1) (es := [[.int _ _]]) rfl rfl; exact Q0; exact j2; exact Q15; exact j2; exact kz; exact L7; exact Q3; exact Q33; exact Q33)
 refine A1 ?_
 refine C1 (s105 (r.st) 2 (by decide)) rfl rfl rfl ?_
 (apply eap (s' := 1) rfl rfl; exact Q0; exact j2; exact Q15; exact j2; exact kz; rfl; exact (V2 true (numL r.st 2)); exact Q18; exact Q18)
 refine A1 ?_
 refine F7 (es := [[.int _ _]]) j4 kz kb rfl rfl ?_
 (apply eap (s' := 1) (es := [[.int _ _]]) rfl rfl; exact Q0; exact j2; exact Q15; exact j2; exact kz; exact L7; exact Q3; exact Q33; exact Q33)
 refine clr 12 [0, 3, 3, 0, 1, 0, 0, 3, 0, 1, 0, 0] [(4, 7), (2, 9), (4, 9)] j2 (by decide +kernel) ?_ ?_
 ·first | (simp [ClearL, ids]; done) | (simp [ClearL, ids]; omega) | (simp [ClearL, ids, srcIds, Env.eval, put, upd, retV, A.toV, T.toV]; try omega)
 refine A1 ?_
 refine C1 (s105 (r.an.tk) 3 (by decide)) rfl rfl rfl ?_
 (apply eap (s' := 1) rfl rfl; exact Q0; exact j2; exact Q15; exact j2; exact kz; rfl; exact (V2 true (numL r.an.tk 3)); exact Q18; exact Q18)
 refine A1 ?_
 refine C0 ?_
 refine C1 (s105 (r.an.hd + 1) 2 (by decide)) rfl rfl rfl ?_
 (apply eap (s' := 1) rfl rfl; exact Q0; exact j2; exact Q15; exact j2; exact kz; rfl; exact (V2 true (numL (r.an.hd + 1) 2)); exact Q18; exact Q18)
 refine clr 13 [0, 3, 0, 0, 1, 0, 0, 3, 0, 1, 0, 0, 0] [(5, 8)] j2 (by decide +kernel) ?_ ?_
 ·first | (simp [ClearL, ids]; done) | (simp [ClearL, ids]; omega) | (simp [ClearL, ids, srcIds, Env.eval, put, upd, retV, A.toV, T.toV]; try omega)
 refine A1 ?_
 refine C1 (s105 (r.an.ex) 4 (by decide)) rfl rfl rfl ?_
 (apply eap (s' := 1) rfl rfl; exact Q0; exact j2; exact Q15; exact j2; exact kz; rfl; exact (V2 true (numL r.an.ex 4)); exact Q18; exact Q18)
 refine C9 (xs := [_]) [9] rfl (.cons _ _ _ _ (.one _ _ (snapB (List.mem_singleton.2 rfl) ?_ ?_)) .nil)
 ·(simp (disch := omega) only [↓app0, ↓appC, ↓updS, ↓updN, ↓hpS, ↓hpN]); refine congrArg (fun z => some (Blk.mk z 1 5)) ?_; simp only [plL, List.map_append, List.drop_zero, P0]; rfl
 ·rw [Z0]; simp only [List.length_append, List.length_drop, List.length_map, List.length_cons, List.length_nil, C2, Nat.sub_zero, Nat.zero_add]
theorem s78 (r : Rp) (hr : r.ok) : Pure En 257 [.agg r.T] [.one (.str (rm r))] := by
 refine Pure.of_ev (st := []) Tryz.func257 rfl kb ?_
 refine A1 ?_
 (apply C3 (vs := [.int _ _, .int _ _, .int _ _, .int _ _, .int _ _, .int _ _, .int _ _, .str _]) j2; exact Q0; rfl; rfl; exact kb; rfl)
 refine C1 (s92 r hr) rfl rfl rfl ?_
 refine C1 (s91 r.nd true (plL r) (by rw [Z0]; decide) (plL_bytes r)) rfl rfl rfl ?_
 have e := plL_str r
 unfold rm; rw [← e]; exact B4 rfl rfl
def Rp.fits (n : Int) (r : Rp) : Prop := r.ok ∧ r.nd < n ∧ rm r = r.mac
noncomputable instance (n : Int) (r : Rp) : Decidable (r.fits n) := Classical.propDecidable _
theorem N7 {n : Int} (hn : nodes n) (r : Rp) : r.fits n ↔ r.OK n := ⟨fun h => ⟨hn, h.1, h.2.1, h.2.2.symm⟩, fun h => ⟨h.2.1, h.2.2.1, h.2.2.2.symm⟩⟩
theorem s53 (n : Int) (r : Rp) : Pure En 196 [.one (.int .i64 n), .agg r.T] [.one (.bool (decide (r.fits n)))] := by
 refine Pure.of_ev (st := []) Tryz.func196 rfl kb ?_
 (apply C3 (vs := [.int _ _, .int _ _, .int _ _, .int _ _, .int _ _, .int _ _, .int _ _, .str _]) j2; exact Q0; rfl; rfl; exact kb; rfl)
 refine B0 (s77 r) rfl j2 ?_ ?_ <;> intro h1_1
 ·refine A1 ?_
  refine br ?_ ?_ <;> intro h1_6
  ·(apply C3 (vs := [.int _ _, .int _ _, .int _ _, .int _ _, .int _ _, .int _ _, .int _ _, .str _]) j2; exact Q0; rfl; rfl; exact kb; rfl)
   refine C1 (s78 r h1_1) rfl rfl rfl ?_
   refine A1 ?_
   refine br ?_ ?_ <;> intro h1_13
   ·first | exact B7 rfl ⟨by assumption, by assumption, by assumption⟩ | (refine A7 rfl fun hw => ?_; obtain ⟨w1, w2, w3⟩ := hw; first | contradiction | omega)
   ·first | exact B7 rfl ⟨by assumption, by assumption, by assumption⟩ | (refine A7 rfl fun hw => ?_; obtain ⟨w1, w2, w3⟩ := hw; first | contradiction | omega)
  ·first | exact B7 rfl ⟨by assumption, by assumption, by assumption⟩ | (refine A7 rfl fun hw => ?_; obtain ⟨w1, w2, w3⟩ := hw; first | contradiction | omega)
 ·first | exact B7 rfl ⟨by assumption, by assumption, by assumption⟩ | (refine A7 rfl fun hw => ?_; obtain ⟨w1, w2, w3⟩ := hw; first | contradiction | omega)
theorem drop_get' {L : List Int} {i : Nat} (h : i < L.length) : L.getD i 0 ∈ L := by
 simp [List.getD, h]
theorem s79 (nn : Bool) (L : List Int) (x : Int) (hL : L.length ≤ 1000000) : Pure En 103 [.one (.sl nn (L.map fun y => [.int .i64 y])), .one (.int .i64 x)] [.one (.bool (decide (x ∈ L)))] := by
 have hl : (L.map fun y => [T.int .i64 y]).length = L.length := List.length_map ..
 refine Pure.of_ev (st := []) Tryz.func103 rfl kb ?_
 refine C4 (fun (i : Nat) => [.sl false nn (L.map fun y => [.int .i64 y]), .int .i64 x, .unk, .unk, .unk, .int .i64 i]) (fun (i : Nat) => i ≤ L.length ∧ ∀ j, j < i → L.getD j 0 ≠ x) (fun (i : Nat) => L.length - i) 0 ?_ ?_ ?_
 ·exact ⟨Nat.zero_le _, E6⟩
 ·(repeat first | exact LE.nil _ | refine LE.unk _ _ ?_ | refine LE.eq _ _ _ rfl ?_)
 intro i hI ih
 refine A6 (st := []) ?_
 refine br ?_ ?_ <;> intro h2_3
 ·(refine B9 (C5 (by first | rfl | assumption | exact A9 (fun y => [T.int .i64 y]) 0 (by omega)) rfl ?_))
  refine br ?_ ?_ <;> intro h4_5
  ·first
    | (refine B7 rfl ?_; rw [← h4_5, Int.toNat_natCast]; exact drop_get' (by omega))
    | (refine A7 rfl fun hw => ?_; obtain ⟨j, hj, he⟩ := List.getElem_of_mem hw; exact hI.2 j (by omega) (by rw [← he]; simp [List.getD, hj]))
  ·refine C0 ?_
   exact N4 (ih (i + 1) ⟨by omega, C8 hI.2 (by intro e; exact h4_5 (by rw [Int.toNat_natCast]; exact e))⟩ (by omega)) (by (repeat first | exact LE.nil _ | refine LE.unk _ _ ?_ | refine LE.eq _ _ _ rfl ?_))
 ·first
   | (refine B7 rfl ?_; rw [← h4_5, Int.toNat_natCast]; exact drop_get' (by omega))
   | (refine A7 rfl fun hw => ?_; obtain ⟨j, hj, he⟩ := List.getElem_of_mem hw; exact hI.2 j (by omega) (by rw [← he]; simp [List.getD, hj]))
open Go.V
set_option linter.unusedVariables false
set_option linter.unusedSimpArgs false
set_option maxRecDepth 20000
set_option maxHeartbeats 4000000
def strT (s : ByteArray) : List T := [.str s]
def An0 : An := ⟨0, 0, 0, 0⟩
def jT (x : Int) : List T := [.int .i64 x]
theorem p24 (a : An) : Pure En 201 [.agg a.T] [.one (.bool (decide (¬ a.OK)))] := by
 refine Pure.of_ev (st := []) Tryz.func201 rfl kb ?_
 (apply C3 (vs := [.int _ _, .int _ _, .int _ _, .int _ _]) j2; exact Q0; rfl; rfl; exact kb; rfl)
 refine B0 (p25 a) rfl j2 ?_ ?_ <;> intro h1_1
 ·first | exact B7 rfl h1_1 | exact A7 rfl (fun e => e h1_1)
 ·first | exact B7 rfl h1_1 | exact A7 rfl (fun e => e h1_1)
theorem o40 (fr nn : Bool) (L : List An) (hL : L.length ≤ 1048576) {h : Heap} {n : Nat} : ∃ r : Int, (0 ≤ r ↔ ∃ a ∈ L, ¬ a.OK) ∧ V.Open En 262 [.sl fr nn (L.map An.T), .clo 201 []] h n (.int .i64 r) [] n := by
 have hl : (L.map An.T).length = L.length := List.length_map ..
 refine V.Open.of_evX (st := []) (v := fun r => .int .i64 r) (wr := fun _ => []) (m := fun _ => n) Tryz.func262 rfl kb ?_
 refine B3 (fun (i : Nat) => [.sl fr nn (L.map An.T), .clo 201 [], .unk, .unk, .unk, .unk, .unk, .int .i64 (L.map An.T).length, .int .i64 i]) (fun (i : Nat) => h) (fun (i : Nat) => n) (fun (i : Nat) => i ≤ L.length ∧ ∀ j, j < i → ¬ ¬ (L.getD j An0).OK) (fun (i : Nat) => L.length - i) 0 ?_ ?_ ?_ ?_ ?_
 ·exact ⟨Nat.zero_le _, E6⟩
 ·(repeat first | exact LE.nil _ | refine LE.unk _ _ ?_ | refine LE.eq _ _ _ rfl ?_)
 ·exact LessH.refl _
 ·exact Nat.le_refl _
 intro i hI ih
 refine A6 (st := []) ?_
 refine br ?_ ?_ <;> intro h2_0
 ·(refine B9 (C5 (by first | rfl | assumption | (exact A9 An.T An0 (by omega))) rfl ?_))
  refine B0 (p24 _) rfl j2 ?_ ?_ <;> intro h4_5
  ·exact ⟨i, ⟨fun _ => ⟨L.getD i An0, by rw [List.getD_eq_getElem?_getD, List.getElem?_eq_getElem (show i < L.length by omega)]; exact List.getElem_mem _, h4_5⟩, fun _ => by omega⟩, fiO rfl rfl (fun _ _ _ e => e) (Nat.le_refl _)⟩
  ·refine C0 ?_
   exact C6 (ih (i + 1) ⟨by omega, C8 hI.2 h4_5⟩ (by omega)) (by (repeat first | exact LE.nil _ | refine LE.unk _ _ ?_ | refine LE.eq _ _ _ rfl ?_)) (LessH.refl _) (Nat.le_refl _)
 ·exact ⟨-1, ⟨fun h => absurd h (by decide), fun ⟨s, h1, h2⟩ => by
   obtain ⟨j, hj, rfl⟩ := List.getElem_of_mem h1
   have := hI.2 j (by omega)
   rw [List.getD_eq_getElem?_getD, List.getElem?_eq_getElem hj] at this
   exact absurd h2 this⟩, fiO rfl rfl (fun _ _ _ e => e) (Nat.le_refl _)⟩
theorem o23 (fr nn : Bool) (L : List An) (hL : L.length ≤ 1048576) {h : Heap} {n : Nat} : V.Open En 200 [.sl fr nn (L.map An.T), .clo 201 []] h n (.bool (decide (∃ a ∈ L, ¬ a.OK))) [] n := by
 refine V.Open.of_ev (st := []) Tryz.func200 rfl kb ?_
 refine eopX (o40 fr nn L hL) rfl j2 ?_
 rintro r h1_2
 try dsimp only at h1_2
 refine br ?_ ?_ <;> intro h1_3
 ·first
   | (rw [decide_eq_true (h1_2.1 h1_3)]; exact fiO rfl rfl (fun _ _ _ e => e) (Nat.le_refl _))
   | (rw [decide_eq_false (fun e => h1_3 (h1_2.2 e))]; exact fiO rfl rfl (fun _ _ _ e => e) (Nat.le_refl _))
 ·first
   | (rw [decide_eq_true (h1_2.1 h1_3)]; exact fiO rfl rfl (fun _ _ _ e => e) (Nat.le_refl _))
   | (rw [decide_eq_false (fun e => h1_3 (h1_2.2 e))]; exact fiO rfl rfl (fun _ _ _ e => e) (Nat.le_refl _))
theorem p46 (nn : Bool) (L : List Int) (x : Int) (hL : L.length ≤ 1048576) : ∃ r : Int, (0 ≤ r ↔ x ∈ L) ∧ Pure En 278 [.one (.sl nn (L.map jT)), .one (.int .i64 x)] [.one (.int .i64 r)] := by
 have hl : (L.map jT).length = L.length := List.length_map ..
 refine Pure.of_evX (st := []) Tryz.func278 rfl kb ?_
 refine C4 (fun (i : Nat) => [.sl false nn (L.map jT), .int .i64 x, .unk, .unk, .unk, .unk, .unk, .int .i64 (L.map jT).length, .int .i64 i]) (fun (i : Nat) => i ≤ L.length ∧ ∀ j, j < i → ¬ x = L.getD j 0) (fun (i : Nat) => L.length - i) 0 ?_ ?_ ?_
 ·exact ⟨Nat.zero_le _, E6⟩
 ·(repeat first | exact LE.nil _ | refine LE.unk _ _ ?_ | refine LE.eq _ _ _ rfl ?_)
 intro i hI ih
 refine A6 (st := []) ?_
 refine br ?_ ?_ <;> intro h2_0
 ·(refine B9 (C5 (by first | rfl | assumption | (exact A9 jT 0 (by omega))) rfl ?_))
  refine br ?_ ?_ <;> intro h4_5
  ·exact ⟨i, ⟨fun _ => by have e : x = L.getD i 0 := h4_5; rw [e, List.getD_eq_getElem?_getD, List.getElem?_eq_getElem (show i < L.length by omega)]; exact List.getElem_mem _, fun _ => by omega⟩, B4 rfl rfl⟩
  ·refine C0 ?_
   exact N4 (ih (i + 1) ⟨by omega, C8 hI.2 h4_5⟩ (by omega)) (by (repeat first | exact LE.nil _ | refine LE.unk _ _ ?_ | refine LE.eq _ _ _ rfl ?_))
 ·exact ⟨-1, ⟨fun h => absurd h (by decide), fun h1 => by
   obtain ⟨j, hj, rfl⟩ := List.getElem_of_mem h1
   have := hI.2 j (by omega)
   rw [List.getD_eq_getElem?_getD, List.getElem?_eq_getElem hj, Option.getD_some] at this
   exact (this rfl).elim⟩, B4 rfl rfl⟩
theorem p41 (nn : Bool) (L : List Int) (x : Int) (hL : L.length ≤ 1048576) : Pure En 231 [.one (.sl nn (L.map jT)), .one (.int .i64 x)] [.one (.bool (decide (x ∈ L)))] := by
 refine Pure.of_ev (st := []) Tryz.func231 rfl kb ?_
 refine G2 (p46 nn L x hL) rfl j2 ?_
 rintro r h1_2
 try dsimp only at h1_2
 refine br ?_ ?_ <;> intro h1_3
 ·first | exact B7 rfl (h1_2.1 h1_3) | exact A7 rfl (fun e => h1_3 (h1_2.2 e))
 ·first | exact B7 rfl (h1_2.1 h1_3) | exact A7 rfl (fun e => h1_3 (h1_2.2 e))
theorem p41n (x : Int) : Pure En 231 [.one .nsl, .one (.int .i64 x)] [.one (.bool (decide (x ∈ ([] : List Int))))] :=
 (p41 false [] x (Nat.zero_le _)).weakA (.cons _ _ _ _ (.one _ _ .nil) (.cons _ _ _ _ (.one _ _ (.refl _)) .nil))
open Go.V
set_option linter.unusedVariables false
set_option linter.unusedSimpArgs false
set_option maxRecDepth 20000
set_option maxHeartbeats 4000000
structure Cl where
 id : Int
 st : Int
 bz : Bool
 rq : Rq
 rps : List Rp
 acc : List An
def Cl.T (c : Cl) (n1 n2 : Bool) : List T := [.int .i64 c.id, .int .i64 c.st, .bool c.bz, .int .i64 c.rq.cl, .int .i64 c.rq.st, .int .i64 c.rq.kd, .int .i64 c.rq.le, .str c.rq.nm, .sl n1 (c.rps.map Rp.T), .sl n2 (c.acc.map An.T)]
def Rq0 : Rq := ⟨0, 0, 0, 0, ⟨#[]⟩⟩
open Go.V
set_option linter.unusedVariables false
set_option linter.unusedSimpArgs false
set_option maxRecDepth 20000
set_option maxHeartbeats 4000000
def An.V (a : An) : List V := [.int .i64 a.kd, .int .i64 a.tk, .int .i64 a.hd, .int .i64 a.ex]
theorem len4 {α : Type} {l : List α} (h : l.length = 4) : ∃ a b c d, l = [a, b, c, d] := by
 match l, h with
 | [a, b, c, d], _ => exact ⟨a, b, c, d, rfl⟩
theorem keyL : WideMaps.KeyLaw En.P 165 := deep_law (m := 2) (by decide) (by kernel_rfl) (by kernel_rfl) (by kernel_rfl)
theorem lits3 {d : Nat} {n : Int} (h : -9223372036854775808 ≤ n ∧ n ≤ 9223372036854775807) : En.P.keyLits (d + 1) 3 [.int .i64 n] = some [.int .i64 n] := by
 have hu : En.P.underlying 3 = some (.int .i64) := by kernel_rfl
 have hw : (Lit.int .i64 n).wf = true := by
  simp only [Lit.wf, Bool.and_eq_true, decide_eq_true_eq]
  exact ⟨by have : IntKind.i64.min = -9223372036854775808 := rfl; omega, by have : IntKind.i64.max = 9223372036854775807 := rfl; omega⟩
 unfold Program.keyLits
 rw [hu]
 simp [hw]
theorem keyA (a : An) (h : a.OK) : KeyOK En.P 165 (.agg a.V) := by
 unfold An.OK at h
 refine ⟨.agg #[.int .i64 a.kd, .int .i64 a.tk, .int .i64 a.hd, .int .i64 a.ex], .string (keyBytes [.int .i64 a.kd, .int .i64 a.tk, .int .i64 a.hd, .int .i64 a.ex]), rfl, ?_⟩
 have hu : ∃ fs, En.P.underlying 165 = some (.struct fs) ∧ fs.toList.map (fun f => (f.type, f.offset)) = [(3, 0), (3, 1), (3, 2), (3, 3)] ∧ fs.all (·.name != "_") = true := ⟨En.P.fieldsOf 165, by kernel_rfl, by kernel_rfl, by kernel_rfl⟩
 obtain ⟨fs, hu, hf, hn⟩ := hu
 have hc : En.P.cellsOf 165 = 4 := by kernel_rfl
 have hc3 : En.P.cellsOf 3 = 1 := by kernel_rfl
 have hk : En.P.keyType 165 = true := by kernel_rfl
 have hsz : ∃ m, En.P.types.size = m + 1 := ⟨En.P.types.size - 1, by kernel_rfl⟩
 obtain ⟨m, hm⟩ := hsz
 have hfm : (Value.agg #[.int .i64 a.kd, .int .i64 a.tk, .int .i64 a.hd, .int .i64 a.ex]).formed En.P 165 = true := by
  simp [Value.formed, hu, hc]
 have hl : En.P.keyLits (m + 1 + 1) 165 [.int .i64 a.kd, .int .i64 a.tk, .int .i64 a.hd, .int .i64 a.ex] = some [.int .i64 a.kd, .int .i64 a.tk, .int .i64 a.hd, .int .i64 a.ex] := by
  unfold Program.keyLits
  rw [hu]
  simp only [List.length_cons, List.length_nil, hc, hn, and_self, if_true]
  have : ∀ l : List Field, l.map (fun f => (f.type, f.offset)) = [(3, 0), (3, 1), (3, 2), (3, 3)] → l.mapM (fun f => En.P.keyLits (m + 1) f.type (([Value.int .i64 a.kd, .int .i64 a.tk, .int .i64 a.hd, .int .i64 a.ex].drop f.offset).take (En.P.cellsOf f.type))) = some [[.int .i64 a.kd], [.int .i64 a.tk], [.int .i64 a.hd], [.int .i64 a.ex]] := by
   intro l hl
   obtain ⟨f0, f1, f2, f3, rfl⟩ := len4 (l := l) (by simpa using congrArg List.length hl)
   simp only [List.map_cons, List.map_nil, List.cons.injEq, Prod.mk.injEq, and_true] at hl
   obtain ⟨⟨t0, o0⟩, ⟨t1, o1⟩, ⟨t2, o2⟩, t3, o3⟩ := hl
   simp only [List.mapM_cons, List.mapM_nil, t0, o0, t1, o1, t2, o2, t3, o3, hc3, List.drop_zero, List.take_succ_cons, List.take_zero, List.drop_succ_cons]
   rw [lits3 (by omega), lits3 (by omega), lits3 (by omega), lits3 (by omega)]
   rfl
  rw [this _ hf]
  rfl
 unfold keyOf
 rw [hu]
 simp only [hk, hfm, Bool.and_self, if_true, hm, Value.cells]
 rw [hl]
 rfl
open Go.V
set_option linter.unusedVariables false
set_option linter.unusedSimpArgs false
set_option maxRecDepth 20000
set_option maxHeartbeats 4000000
def Rp0 : Rp := ⟨0, 0, 0, An0, ⟨#[]⟩⟩
def skp (n c s : Int) (f : An → List Int) (r : Rp) : Prop := r.cl ≠ c ∨ r.st ≠ s ∨ ¬ r.OK n ∨ r.nd ∈ f r.an
noncomputable instance (n c s : Int) (f : An → List Int) (r : Rp) : Decidable (skp n c s f r) := Classical.propDecidable _
noncomputable instance (a b : An) : Decidable (a = b) := Classical.propDecidable _
noncomputable def addF (f : An → List Int) (r : Rp) : An → List Int := fun b => if b = r.an then f r.an ++ [r.nd] else f b
noncomputable def goD (n c s : Int) : (An → List Int) → List Rp → Option An
 | _, [] => none
 | f, r :: R => if skp n c s f r then goD n c s f R else if IntKind.i64.wrap ((n - 1).tdiv 3) < ((f r.an).length + 1 : Nat) then some r.an else goD n c s (addF f r) R
noncomputable def dec (n c s : Int) (L : List Rp) : Option An := goD n c s (fun _ => []) L
theorem L9 {L : List Rp} {i : Nat} (h : i < L.length) : L.drop i = L.getD i Rp0 :: L.drop (i + 1) := by
 rw [List.getD_eq_getElem?_getD, List.getElem?_eq_getElem h, Option.getD_some, List.drop_eq_getElem_cons h]
structure Me where
 an : An
 l : List Int
 ln : Nat
 id : Nat
def Me.row (e : Me) : List V := [.agg e.an.V, .view e.id 0 e.ln]
def jV (x : Int) : List V := [.int .i64 x]
structure Inv (n c s : Int) (L : List Rp) (i : Nat) (M : List Me) (f : An → List Int) (hh : Heap) (N : Nat) : Prop where
 le : i ≤ L.length
 n2 : 2 ≤ N
 z : hh 0 = some ⟨[An0.V], 4, 165⟩
 mp : hh 1 = some ⟨M.map Me.row, 0, 304⟩
 bl : ∀ e ∈ M, hh e.id = some ⟨e.l.map jV, 1, 3⟩ ∧ 2 ≤ e.id ∧ e.id < N
 ln : ∀ e ∈ M, e.l.length = e.ln ∧ e.ln ≤ i
 ok : ∀ e ∈ M, e.an.OK
 di : ∀ (j k : Nat) (x y : Me), M[j]? = some x → M[k]? = some y → (x.an = y.an ∨ x.id = y.id) → j = k
 fe : ∀ e ∈ M, f e.an = e.l
 fn : ∀ a, (∀ e ∈ M, e.an ≠ a) → f a = []
 len : M.length ≤ i
 go : goD n c s f (L.drop i) = dec n c s L
theorem An.V_inj {a b : An} (h : V.agg a.V = V.agg b.V) : a = b := by
 cases a; cases b
 simp only [An.V, V.agg.injEq, List.cons.injEq, V.int.injEq, and_true, true_and] at h
 obtain ⟨h1, h2, h3, h4⟩ := h
 simp [h1, h2, h3, h4]
theorem keysM {M : List Me} (h : ∀ e ∈ M, e.an.OK) : KeysOK En.P 165 (M.map Me.row) := by
 intro i row hr
 rw [List.getElem?_map] at hr
 cases hz : M[i]? with
 | none => simp [hz] at hr
 | some e =>
  simp only [hz, Option.map_some, Option.some.injEq] at hr
  subst hr
  exact ⟨_, _, rfl, keyA _ (h e (List.mem_of_getElem? hz))⟩
theorem rowGet {M : List Me} {j : Nat} {e : Me} {a : An} (h : M[j]? = some e) (ha : e.an = a) : (M.map Me.row)[j]? = some [.agg a.V, .view e.id 0 e.ln] := by
 rw [List.getElem?_map, h]; subst ha; rfl
theorem rowUniq {M : List Me} {j : Nat} {e : Me} {a : An} (hd : ∀ (j k : Nat) (x y : Me), M[j]? = some x → M[k]? = some y → (x.an = y.an ∨ x.id = y.id) → j = k) (h : M[j]? = some e) (ha : e.an = a) :
  ∀ (k : Nat) (x : V), (M.map Me.row)[k]? = some [.agg a.V, x] → k = j := by
 intro k x hk
 rw [List.getElem?_map] at hk
 cases hz : M[k]? with
 | none => simp [hz] at hk
 | some e' =>
  simp only [hz, Option.map_some, Option.some.injEq, Me.row, List.cons.injEq] at hk
  exact hd k j e' e hz h (.inl ((An.V_inj hk.1).trans ha.symm))
theorem rowNo {M : List Me} {a : An} (h : ∀ e ∈ M, e.an ≠ a) : ∀ (k : Nat) (k' x : V), (M.map Me.row)[k]? = some [k', x] → k' ≠ .agg a.V := by
 intro k k' x hk e
 subst e
 rw [List.getElem?_map] at hk
 cases hz : M[k]? with
 | none => simp [hz] at hk
 | some e' =>
  simp only [hz, Option.map_some, Option.some.injEq, Me.row, List.cons.injEq] at hk
  exact h e' (List.mem_of_getElem? hz) (An.V_inj hk.1)
theorem Inv.skip {n c s : Int} {L : List Rp} {i : Nat} {M : List Me} {f : An → List Int} {hh h' : Heap} {N N' : Nat} (I : Inv n c s L i M f hh N) (hi : i < L.length) (hs : skp n c s f (L.getD i Rp0)) (hN : N ≤ N') (ha : ∀ id, id < N → h' id = hh id) : Inv n c s L (i + 1) M f h' N' where
 le := hi
 n2 := Nat.le_trans I.n2 hN
 z := (ha 0 (by have := I.n2; omega)).trans I.z
 mp := (ha 1 (by have := I.n2; omega)).trans I.mp
 bl := fun e he => by
  obtain ⟨h1, h2, h3⟩ := I.bl e he
  exact ⟨(ha _ h3).trans h1, h2, by omega⟩
 ln := fun e he => ⟨(I.ln e he).1, by have := (I.ln e he).2; omega⟩
 ok := I.ok
 di := I.di
 fe := I.fe
 fn := I.fn
 len := by have := I.len; omega
 go := by
  rw [← I.go, L9 hi]
  simp only [goD, hs, if_true]
theorem Inv.hit {n c s : Int} {L : List Rp} {i j : Nat} {M : List Me} {f : An → List Int} {hh h' : Heap} {N : Nat} {e : Me} (I : Inv n c s L i M f hh N) (hi : i < L.length) (hs : ¬ skp n c s f (L.getD i Rp0))
  (hq : ¬ IntKind.i64.wrap ((n - 1).tdiv 3) < ((f (L.getD i Rp0).an).length + 1 : Nat)) (hj : M[j]? = some e) (he : e.an = (L.getD i Rp0).an)
  (ha : ∀ id, id < N → id ≠ 1 → id ≠ e.id → h' id = hh id) (h1 : h' 1 = some ⟨(M.set j ⟨e.an, e.l ++ [(L.getD i Rp0).nd], e.ln + 1, N + 2⟩).map Me.row, 0, 304⟩) (h2 : h' (N + 2) = some ⟨(e.l ++ [(L.getD i Rp0).nd]).map jV, 1, 3⟩) :
  Inv n c s L (i + 1) (M.set j ⟨e.an, e.l ++ [(L.getD i Rp0).nd], e.ln + 1, N + 2⟩) (addF f (L.getD i Rp0)) h' (N + 3) := by
 have hem : e ∈ M := List.mem_of_getElem? hj
 have hjl : j < M.length := (List.getElem?_eq_some_iff.1 hj).1
 obtain ⟨hb1, hb2, hb3⟩ := I.bl e hem
 have hn := I.n2
 have hset : ∀ (k : Nat) (x : Me), (M.set j ⟨e.an, e.l ++ [(L.getD i Rp0).nd], e.ln + 1, N + 2⟩)[k]? = some x → (k = j ∧ x = ⟨e.an, e.l ++ [(L.getD i Rp0).nd], e.ln + 1, N + 2⟩) ∨ (k ≠ j ∧ M[k]? = some x) := by
  intro k x hk
  by_cases hkj : k = j
  ·subst hkj
   rw [List.getElem?_set_self hjl] at hk
   exact .inl ⟨rfl, (Option.some.inj hk).symm⟩
  ·rw [List.getElem?_set_ne (Ne.symm hkj)] at hk
   exact .inr ⟨hkj, hk⟩
 have hmem : ∀ x ∈ (M.set j ⟨e.an, e.l ++ [(L.getD i Rp0).nd], e.ln + 1, N + 2⟩), x = ⟨e.an, e.l ++ [(L.getD i Rp0).nd], e.ln + 1, N + 2⟩ ∨ (x ∈ M ∧ x.an ≠ e.an ∧ x.id ≠ e.id) := by
  intro x hx
  obtain ⟨k, hk⟩ := List.getElem?_of_mem hx
  rcases hset k x hk with ⟨_, h⟩ | ⟨h, h'⟩
  ·exact .inl h
  ·exact .inr ⟨List.mem_of_getElem? h', fun q => h (I.di k j x e h' hj (.inl q)), fun q => h (I.di k j x e h' hj (.inr q))⟩
 refine ⟨hi, by omega, (ha 0 (by omega) (by omega) (by omega)).trans I.z, h1, fun x hx => ?_, fun x hx => ?_, fun x hx => ?_, fun k m x y hx hy hxy => ?_, fun x hx => ?_, fun a hno => ?_, by rw [List.length_set]; have := I.len; omega, ?_⟩
 ·rcases hmem x hx with rfl | ⟨h, h3, h4⟩
  ·exact ⟨h2, by dsimp only; omega, by dsimp only; omega⟩
  ·obtain ⟨q1, q2, q3⟩ := I.bl x h
   exact ⟨(ha x.id q3 (by omega) h4).trans q1, q2, by omega⟩
 ·rcases hmem x hx with rfl | ⟨h, h3, h4⟩
  ·have := I.ln e hem
   exact ⟨by simp [this.1], by dsimp only; omega⟩
  ·have := I.ln x h
   exact ⟨this.1, by omega⟩
 ·rcases hmem x hx with rfl | ⟨h, h3, h4⟩
  ·exact I.ok e hem
  ·exact I.ok x h
 ·rcases hset k x hx with ⟨rfl, rfl⟩ | ⟨hk, hx'⟩ <;> rcases hset m y hy with ⟨rfl, rfl⟩ | ⟨hm, hy'⟩
  ·rfl
  ·rcases hxy with h | h
   ·exact I.di k m e y hj hy' (.inl h)
   ·have := (I.bl y (List.mem_of_getElem? hy')).2.2
    dsimp only at h; omega
  ·rcases hxy with h | h
   ·exact I.di k m x e hx' hj (.inl h)
   ·have := (I.bl x (List.mem_of_getElem? hx')).2.2
    dsimp only at h; omega
  ·exact I.di k m x y hx' hy' hxy
 ·rcases hmem x hx with rfl | ⟨h, h3, h4⟩
  ·dsimp only
   unfold addF
   rw [if_pos he, ← he, I.fe e hem]
  ·unfold addF
   rw [if_neg (by rw [← he]; exact h3)]
   exact I.fe x h
 ·have h3 : a ≠ e.an := fun q => hno ⟨e.an, e.l ++ [(L.getD i Rp0).nd], e.ln + 1, N + 2⟩ (List.mem_of_getElem? (List.getElem?_set_self hjl)) q.symm
  unfold addF
  rw [if_neg (by rw [← he]; exact h3)]
  refine I.fn a fun x hx q => ?_
  obtain ⟨k, hk⟩ := List.getElem?_of_mem hx
  by_cases hkj : k = j
  ·subst hkj; rw [hj] at hk; obtain rfl := Option.some.inj hk; exact h3 q.symm
  ·exact hno x (List.mem_of_getElem? (i := k) (by rw [List.getElem?_set_ne (Ne.symm hkj)]; exact hk)) q
 ·rw [← I.go, L9 hi]
  simp only [goD, hs, hq, if_false]
theorem Inv.miss {n c s : Int} {L : List Rp} {i : Nat} {M : List Me} {f : An → List Int} {hh h' : Heap} {N : Nat} (I : Inv n c s L i M f hh N) (hi : i < L.length) (hs : ¬ skp n c s f (L.getD i Rp0)) (hok : (L.getD i Rp0).an.OK)
  (hq : ¬ IntKind.i64.wrap ((n - 1).tdiv 3) < ((f (L.getD i Rp0).an).length + 1 : Nat)) (hno : ∀ e ∈ M, e.an ≠ (L.getD i Rp0).an)
  (ha : ∀ id, id < N → id ≠ 1 → h' id = hh id) (h1 : h' 1 = some ⟨(M ++ [Me.mk (L.getD i Rp0).an [(L.getD i Rp0).nd] 1 (N + 2)]).map Me.row, 0, 304⟩) (h2 : h' (N + 2) = some ⟨[(L.getD i Rp0).nd].map jV, 1, 3⟩) :
  Inv n c s L (i + 1) (M ++ [Me.mk (L.getD i Rp0).an [(L.getD i Rp0).nd] 1 (N + 2)]) (addF f (L.getD i Rp0)) h' (N + 3) := by
 have hn := I.n2
 have hset : ∀ (k : Nat) (x : Me), (M ++ [Me.mk (L.getD i Rp0).an [(L.getD i Rp0).nd] 1 (N + 2)])[k]? = some x → (k = M.length ∧ x = ⟨(L.getD i Rp0).an, [(L.getD i Rp0).nd], 1, N + 2⟩) ∨ (k < M.length ∧ M[k]? = some x) := by
  intro k x hk
  by_cases hkj : k < M.length
  ·rw [List.getElem?_append_left hkj] at hk; exact .inr ⟨hkj, hk⟩
  ·have hkl := (List.getElem?_eq_some_iff.1 hk).1
   simp at hkl
   have : k = M.length := by omega
   subst this
   simp at hk
   exact .inl ⟨rfl, hk.symm⟩
 refine ⟨hi, by omega, (ha 0 (by omega) (by omega)).trans I.z, h1, fun x hx => ?_, fun x hx => ?_, fun x hx => ?_, fun k m x y hx hy hxy => ?_, fun x hx => ?_, fun a hno' => ?_, by rw [List.length_append]; have := I.len; simp; omega, ?_⟩
 ·rcases List.mem_append.1 hx with h | h
  ·obtain ⟨q1, q2, q3⟩ := I.bl x h
   exact ⟨(ha x.id q3 (by omega)).trans q1, q2, by omega⟩
  ·obtain rfl := List.mem_singleton.1 h
   exact ⟨h2, by dsimp only; omega, by dsimp only; omega⟩
 ·rcases List.mem_append.1 hx with h | h
  ·have := I.ln x h
   exact ⟨this.1, by omega⟩
  ·obtain rfl := List.mem_singleton.1 h
   exact ⟨rfl, by dsimp only; omega⟩
 ·rcases List.mem_append.1 hx with h | h
  ·exact I.ok x h
  ·obtain rfl := List.mem_singleton.1 h
   exact hok
 ·rcases hset k x hx with ⟨rfl, rfl⟩ | ⟨hk, hx'⟩ <;> rcases hset m y hy with ⟨rfl, rfl⟩ | ⟨hm, hy'⟩
  ·rfl
  ·rcases hxy with h | h
   ·exact absurd h.symm (hno y (List.mem_of_getElem? hy'))
   ·have := (I.bl y (List.mem_of_getElem? hy')).2.2
    dsimp only at h; omega
  ·rcases hxy with h | h
   ·exact absurd h (hno x (List.mem_of_getElem? hx'))
   ·have := (I.bl x (List.mem_of_getElem? hx')).2.2
    dsimp only at h; omega
  ·exact I.di k m x y hx' hy' hxy
 ·rcases List.mem_append.1 hx with h | h
  ·unfold addF
   rw [if_neg (hno x h)]
   exact I.fe x h
  ·obtain rfl := List.mem_singleton.1 h
   dsimp only
   unfold addF
   rw [if_pos rfl, I.fn _ hno]; rfl
 ·have h3 : a ≠ (L.getD i Rp0).an := fun q => hno' _ (List.mem_append.2 (.inr (List.mem_singleton.2 rfl))) q.symm
  unfold addF
  rw [if_neg h3]
  exact I.fn a fun x hx => hno' x (List.mem_append.2 (.inl hx))
 ·rw [← I.go, L9 hi]
  simp only [goD, hs, hq, if_false]
theorem Inv.found {n c s : Int} {L : List Rp} {i : Nat} {M : List Me} {f : An → List Int} {hh : Heap} {N : Nat} (I : Inv n c s L i M f hh N) (hi : i < L.length) (hs : ¬ skp n c s f (L.getD i Rp0))
  (hq : IntKind.i64.wrap ((n - 1).tdiv 3) < ((f (L.getD i Rp0).an).length + 1 : Nat)) : dec n c s L = some (L.getD i Rp0).an := by
 rw [← I.go, L9 hi]
 simp only [goD, hs, hq, if_false, if_true]
theorem Inv.done {n c s : Int} {L : List Rp} {i : Nat} {M : List Me} {f : An → List Int} {hh : Heap} {N : Nat} (I : Inv n c s L i M f hh N) (hi : ¬ i < L.length) : dec n c s L = none := by
 rw [← I.go, List.drop_eq_nil_of_le (by omega)]
 rfl
open Go.V
set_option linter.unusedVariables false
set_option linter.unusedSimpArgs false
set_option maxRecDepth 20000
set_option maxHeartbeats 4000000
theorem wlC {E : Env} {sz : Nat} {k : Code} {t : Nat → V} {h : Heap} {n : Nat} {Q : Post} (w : ∀ h', h' = h → WL E sz k t h' n Q) : WL E sz k t h n Q := w h rfl
theorem rowsJ (l : List Int) : l.map jV = rowsV (l.map jT) := by
 unfold rowsV
 rw [List.map_map]; rfl
theorem p28 (n c s : Int) (nn : Bool) (L : List Rp) (hL : L.length ≤ 1000) : Pure En 205 [.one (.int .i64 n), .one (.int .i64 c), .one (.int .i64 s), .one (.sl nn (L.map Rp.T))] [.agg ((dec n c s L).getD An0).T, .one (.bool (dec n c s L).isSome)] := by
 have hl : (L.map Rp.T).length = L.length := List.length_map ..
 refine Pure.of_ev (st := []) Tryz.func205 rfl kb ?_
 refine emkm rfl ?_
 refine B3 (fun (a : Nat × List Me × (An → List Int) × Heap × Nat) => [.int .i64 n, .int .i64 c, .int .i64 s, .unk, .unk, .unk, .unk, .unk, .ptr 0 0 0, .unk, .map 1, .unk, .unk, .unk, .sl false nn (L.map Rp.T), .int .i64 (L.map Rp.T).length, .int .i64 a.1]) (fun (a : Nat × List Me × (An → List Int) × Heap × Nat) => a.2.2.2.1) (fun (a : Nat × List Me × (An → List Int) × Heap × Nat) => a.2.2.2.2) (fun (a : Nat × List Me × (An → List Int) × Heap × Nat) => Inv n c s L a.1 a.2.1 a.2.2.1 a.2.2.2.1 a.2.2.2.2) (fun (a : Nat × List Me × (An → List Int) × Heap × Nat) => L.length - a.1) (0, [], fun _ => [], hp [(0, ⟨[An0.V], 4, 165⟩), (1, ⟨[], 0, 304⟩)], 2) ?_ ?_ ?_ ?_ ?_
 ·exact ⟨Nat.zero_le _, Nat.le_refl _, rfl, rfl, fun _ h => absurd h List.not_mem_nil, fun _ h => absurd h List.not_mem_nil, fun _ h => absurd h List.not_mem_nil, fun _ _ _ _ h => by simp at h, fun _ h => absurd h List.not_mem_nil, fun _ _ => rfl, Nat.le_refl _, rfl⟩
 ·(repeat first | exact LE.nil _ | refine LE.unk _ _ ?_ | refine LE.eq _ _ _ rfl ?_)
 ·(repeat first | exact A5 | (refine A4 ?_ ?_; exact H8))
 ·exact Nat.le_refl _
 intro ⟨i, M, f, hh, N⟩ hI ih
 dsimp only at hI ⊢
 have hn2 := hI.n2
 have hz := hI.z
 have hmp := hI.mp
 have hle := hI.le
 rcases Classical.em (∃ e ∈ M, e.an = (L.getD i Rp0).an) with ⟨e, hem, hea⟩ | hno
 ·skip
  obtain ⟨j, hj⟩ := List.getElem?_of_mem hem
  obtain ⟨hb1, hb2, hb3⟩ := hI.bl e hem
  obtain ⟨hl1, hl2⟩ := hI.ln e hem
  have hfe : f (L.getD i Rp0).an = e.l := by rw [← hea]; exact hI.fe e hem
  have hg := rowGet hj hea
  have hu := rowUniq hI.di hj hea
  have hks := keysM hI.ok
  have hka := keyA (L.getD i Rp0).an (by rw [← hea]; exact hI.ok e hem)
  have hjl : j < M.length := (List.getElem?_eq_some_iff.1 hj).1
  have hrow : ((M.map Me.row).set j (Me.row ⟨(L.getD i Rp0).an, e.l ++ [(L.getD i Rp0).nd], e.ln + 1, N + 2⟩)) = (M.set j ⟨e.an, e.l ++ [(L.getD i Rp0).nd], e.ln + 1, N + 2⟩).map Me.row := by rw [hea, List.map_set]
  have hks2 : KeysOK En.P 165 ((M.map Me.row).set j (Me.row ⟨(L.getD i Rp0).an, e.l ++ [(L.getD i Rp0).nd], e.ln + 1, N + 2⟩)) := by
   rw [hrow]
   refine keysM fun x hx => ?_
   rcases List.mem_or_eq_of_mem_set hx with h | h
   ·exact hI.ok x h
   ·rw [h]; exact hI.ok e hem
  have hg2 : ((M.map Me.row).set j (Me.row ⟨(L.getD i Rp0).an, e.l ++ [(L.getD i Rp0).nd], e.ln + 1, N + 2⟩))[j]? = some [.agg (L.getD i Rp0).an.V, .view (N + 2) 0 (e.ln + 1)] := List.getElem?_set_self (by rw [List.length_map]; exact hjl)
  have hu2 : ∀ (k : Nat) (x : V), ((M.map Me.row).set j (Me.row ⟨(L.getD i Rp0).an, e.l ++ [(L.getD i Rp0).nd], e.ln + 1, N + 2⟩))[k]? = some [.agg (L.getD i Rp0).an.V, x] → k = j := fun k x hk => by
   by_cases h : k = j
   ·exact h
   ·rw [List.getElem?_set_ne (Ne.symm h)] at hk; exact hu k x hk
  refine A6 (st := []) ?_
  refine br ?_ ?_ <;> intro h3_0
  ·(refine B9 (C5 (by first | rfl | assumption | (exact A9 Rp.T Rp0 (by omega))) rfl ?_))
   (apply est (u := .agg [.int _ _, .int _ _, .int _ _, .int _ _, .int _ _, .int _ _, .int _ _, .str _]) j3; exact Q0; rfl; exact j4; exact kb; rfl)
   refine A1 ?_
   refine br ?_ ?_ <;> intro h5_3
   ·refine D3 ⟨by exact X5, by exact X5⟩ ?_
    refine wlC fun h2 he => ?_
    first
     | exact C6 (ih (i + 1, M, f, h2, N + 1) (hI.skip (by omega) (by first | exact .inl h5_3 | exact .inr (.inl h5_8) | exact .inr (.inr (.inl h5_13)) | exact .inr (.inr (.inr (by rw [hfe]; exact h5_23)))) (Nat.le_succ _) (fun id hid => by rw [he]; simp (disch := omega) only [↓app0, ↓appC, ↓updN])) (by dsimp only; omega)) (by (repeat first | exact LE.nil _ | refine LE.unk _ _ ?_ | refine LE.eq _ _ _ rfl ?_)) (LessH.refl _) (Nat.le_refl _)
     | exact C6 (ih (i + 1, M.set j ⟨e.an, e.l ++ [(L.getD i Rp0).nd], e.ln + 1, N + 2⟩, addF f (L.getD i Rp0), h2, N + 3) (hI.hit (by omega) (fun hs => hs.elim h5_3 (fun h => h.elim h5_8 (fun h => h.elim (fun h => h h5_13) (fun h => h5_23 (by rwa [hfe] at h))))) (by rw [hfe, hl1]; exact h7_8) hj hea (fun id q1 q2 q3 => by rw [he]; simp (disch := omega) only [↓app0, ↓appC, ↓updN]) (by rw [he]; simp (disch := omega) only [↓app0, ↓appC, ↓updS, ↓updN]; exact congrArg (fun z => some (Blk.mk z 0 304)) hrow) (by rw [he]; simp (disch := omega) only [↓app0, ↓appC, ↓updS, ↓updN]; rw [List.map_append]; rfl)) (by dsimp only; omega)) (by (repeat first | exact LE.nil _ | refine LE.unk _ _ ?_ | refine LE.eq _ _ _ rfl ?_)) (LessH.refl _) (Nat.le_refl _)
   ·refine A1 ?_
    refine br ?_ ?_ <;> intro h5_8
    ·refine D3 ⟨by exact X5, by exact X5⟩ ?_
     refine wlC fun h2 he => ?_
     first
      | exact C6 (ih (i + 1, M, f, h2, N + 1) (hI.skip (by omega) (by first | exact .inl h5_3 | exact .inr (.inl h5_8) | exact .inr (.inr (.inl h5_13)) | exact .inr (.inr (.inr (by rw [hfe]; exact h5_23)))) (Nat.le_succ _) (fun id hid => by rw [he]; simp (disch := omega) only [↓app0, ↓appC, ↓updN])) (by dsimp only; omega)) (by (repeat first | exact LE.nil _ | refine LE.unk _ _ ?_ | refine LE.eq _ _ _ rfl ?_)) (LessH.refl _) (Nat.le_refl _)
      | exact C6 (ih (i + 1, M.set j ⟨e.an, e.l ++ [(L.getD i Rp0).nd], e.ln + 1, N + 2⟩, addF f (L.getD i Rp0), h2, N + 3) (hI.hit (by omega) (fun hs => hs.elim h5_3 (fun h => h.elim h5_8 (fun h => h.elim (fun h => h h5_13) (fun h => h5_23 (by rwa [hfe] at h))))) (by rw [hfe, hl1]; exact h7_8) hj hea (fun id q1 q2 q3 => by rw [he]; simp (disch := omega) only [↓app0, ↓appC, ↓updN]) (by rw [he]; simp (disch := omega) only [↓app0, ↓appC, ↓updS, ↓updN]; exact congrArg (fun z => some (Blk.mk z 0 304)) hrow) (by rw [he]; simp (disch := omega) only [↓app0, ↓appC, ↓updS, ↓updN]; rw [List.map_append]; rfl)) (by dsimp only; omega)) (by (repeat first | exact LE.nil _ | refine LE.unk _ _ ?_ | refine LE.eq _ _ _ rfl ?_)) (LessH.refl _) (Nat.le_refl _)
    ·(apply C3 (vs := [.int _ _, .int _ _, .int _ _, .int _ _, .int _ _, .int _ _, .int _ _, .str _]) j2; exact Q0; rfl; rfl; exact kb; rfl)
     refine B0 (p27 n (L.getD i Rp0)) rfl j2 ?_ ?_ <;> intro h5_13
     ·(apply C3 (vs := [.int _ _, .int _ _, .int _ _, .int _ _]) j2; exact Q0; rfl; rfl; exact kb; rfl)
      (apply elkh (m := j) (v := .view e.id 0 e.ln) j3 keyL; ((simp (disch := omega) only [↓app0, ↓appC, ↓updS, ↓updN]) <;> first | rfl | assumption); exact hks; rfl; exact hka; exact hg; exact hu)
      refine A1 ?_
      apply eclSP [e.id] (p41 true e.l _ (by omega)) rfl j2
      ·exact SnapL.cons _ _ _ _ (.one _ _ (B5 (b := ⟨e.l.map jV, 1, 3⟩) (e.l.map jT) (List.mem_singleton.2 rfl) (by ((simp (disch := omega) only [↓app0, ↓appC, ↓updS, ↓updN]) <;> first | rfl | assumption)) (rowsJ e.l) (by rw [List.length_map]; omega))) (SnapL.cons _ _ _ _ (.one _ _ (.int _ _)) SnapL.nil)
      all_goals intro h5_23
      ·refine D3 ⟨by exact X5, by exact X5⟩ ?_
       refine wlC fun h2 he => ?_
       first
        | exact C6 (ih (i + 1, M, f, h2, N + 1) (hI.skip (by omega) (by first | exact .inl h5_3 | exact .inr (.inl h5_8) | exact .inr (.inr (.inl h5_13)) | exact .inr (.inr (.inr (by rw [hfe]; exact h5_23)))) (Nat.le_succ _) (fun id hid => by rw [he]; simp (disch := omega) only [↓app0, ↓appC, ↓updN])) (by dsimp only; omega)) (by (repeat first | exact LE.nil _ | refine LE.unk _ _ ?_ | refine LE.eq _ _ _ rfl ?_)) (LessH.refl _) (Nat.le_refl _)
        | exact C6 (ih (i + 1, M.set j ⟨e.an, e.l ++ [(L.getD i Rp0).nd], e.ln + 1, N + 2⟩, addF f (L.getD i Rp0), h2, N + 3) (hI.hit (by omega) (fun hs => hs.elim h5_3 (fun h => h.elim h5_8 (fun h => h.elim (fun h => h h5_13) (fun h => h5_23 (by rwa [hfe] at h))))) (by rw [hfe, hl1]; exact h7_8) hj hea (fun id q1 q2 q3 => by rw [he]; simp (disch := omega) only [↓app0, ↓appC, ↓updN]) (by rw [he]; simp (disch := omega) only [↓app0, ↓appC, ↓updS, ↓updN]; exact congrArg (fun z => some (Blk.mk z 0 304)) hrow) (by rw [he]; simp (disch := omega) only [↓app0, ↓appC, ↓updS, ↓updN]; rw [List.map_append]; rfl)) (by dsimp only; omega)) (by (repeat first | exact LE.nil _ | refine LE.unk _ _ ?_ | refine LE.eq _ _ _ rfl ?_)) (LessH.refl _) (Nat.le_refl _)
      ·(apply C3 (vs := [.int _ _, .int _ _, .int _ _, .int _ _]) j2; exact Q0; rfl; rfl; exact kb; rfl)
       refine A1 ?_
       refine F7 (es := [[.int _ _]]) j4 kz kb rfl rfl ?_
       (apply emeh (m := j) (v := .view e.id 0 e.ln) j3 keyL; ((simp (disch := omega) only [↓app0, ↓appC, ↓updS, ↓updN]) <;> first | rfl | assumption); exact hks; rfl; exact hka; exact hg; exact hu)
       (apply eap (s' := 8) (es := [[.int _ _]]) rfl rfl; exact Q0; exact j2; (first | rfl | omega | (show _ = (List.map jV e.l).length; rw [List.length_map]; omega)); exact j2; exact kz; exact L7; exact Q3; exact Q39; exact Q39)
       (apply ees (m := j) (kv := .agg (L.getD i Rp0).an.V) (vv := .view e.id 0 e.ln) (u := .view _ _ _) j4; ((simp (disch := omega) only [↓app0, ↓appC, ↓updS, ↓updN]) <;> first | rfl | assumption); exact hg)
       (apply C3 (vs := [.int _ _, .int _ _, .int _ _, .int _ _]) j2; exact Q0; rfl; rfl; exact kb; rfl)
       (apply elkh (m := j) (v := .view (N + 2) 0 (e.ln + 1)) j3 keyL; ((simp (disch := omega) only [↓app0, ↓appC, ↓updS, ↓updN]) <;> first | rfl | assumption); exact hks2; rfl; exact hka; exact hg2; exact hu2)
       refine D3 ⟨by exact X5, by exact X5⟩ ?_
       refine B9 ?_
       refine br ?_ ?_ <;> intro h7_8
       ·(apply C3 (vs := [.int _ _, .int _ _, .int _ _, .int _ _]) j2; exact Q0; rfl; rfl; exact kb; rfl)
        (apply est (u := .agg [.int _ _, .int _ _, .int _ _, .int _ _]) j3; exact Q0; rfl; exact j4; exact kb; rfl)
        have hq := hI.found (by omega) (fun hs => hs.elim h5_3 (fun h => h.elim h5_8 (fun h => h.elim (fun h => h h5_13) (fun h => h5_23 (by rwa [hfe] at h))))) (by rw [hfe, hl1]; exact h7_8)
        rw [hq]; exact B4 (A0 (A3 rfl (by ((simp (disch := omega) only [↓app0, ↓appC, ↓updS, ↓updN]) <;> first | rfl | assumption)) j2 kb rfl) (A0 rfl A2)) rfl
       ·refine D3 ⟨by exact X5, by exact X5⟩ ?_
        refine wlC fun h2 he => ?_
        first
         | exact C6 (ih (i + 1, M, f, h2, N + 1) (hI.skip (by omega) (by first | exact .inl h5_3 | exact .inr (.inl h5_8) | exact .inr (.inr (.inl h5_13)) | exact .inr (.inr (.inr (by rw [hfe]; exact h5_23)))) (Nat.le_succ _) (fun id hid => by rw [he]; simp (disch := omega) only [↓app0, ↓appC, ↓updN])) (by dsimp only; omega)) (by (repeat first | exact LE.nil _ | refine LE.unk _ _ ?_ | refine LE.eq _ _ _ rfl ?_)) (LessH.refl _) (Nat.le_refl _)
         | exact C6 (ih (i + 1, M.set j ⟨e.an, e.l ++ [(L.getD i Rp0).nd], e.ln + 1, N + 2⟩, addF f (L.getD i Rp0), h2, N + 3) (hI.hit (by omega) (fun hs => hs.elim h5_3 (fun h => h.elim h5_8 (fun h => h.elim (fun h => h h5_13) (fun h => h5_23 (by rwa [hfe] at h))))) (by rw [hfe, hl1]; exact h7_8) hj hea (fun id q1 q2 q3 => by rw [he]; simp (disch := omega) only [↓app0, ↓appC, ↓updN]) (by rw [he]; simp (disch := omega) only [↓app0, ↓appC, ↓updS, ↓updN]; exact congrArg (fun z => some (Blk.mk z 0 304)) hrow) (by rw [he]; simp (disch := omega) only [↓app0, ↓appC, ↓updS, ↓updN]; rw [List.map_append]; rfl)) (by dsimp only; omega)) (by (repeat first | exact LE.nil _ | refine LE.unk _ _ ?_ | refine LE.eq _ _ _ rfl ?_)) (LessH.refl _) (Nat.le_refl _)
     ·refine D3 ⟨by exact X5, by exact X5⟩ ?_
      refine wlC fun h2 he => ?_
      first
       | exact C6 (ih (i + 1, M, f, h2, N + 1) (hI.skip (by omega) (by first | exact .inl h5_3 | exact .inr (.inl h5_8) | exact .inr (.inr (.inl h5_13)) | exact .inr (.inr (.inr (by rw [hfe]; exact h5_23)))) (Nat.le_succ _) (fun id hid => by rw [he]; simp (disch := omega) only [↓app0, ↓appC, ↓updN])) (by dsimp only; omega)) (by (repeat first | exact LE.nil _ | refine LE.unk _ _ ?_ | refine LE.eq _ _ _ rfl ?_)) (LessH.refl _) (Nat.le_refl _)
       | exact C6 (ih (i + 1, M.set j ⟨e.an, e.l ++ [(L.getD i Rp0).nd], e.ln + 1, N + 2⟩, addF f (L.getD i Rp0), h2, N + 3) (hI.hit (by omega) (fun hs => hs.elim h5_3 (fun h => h.elim h5_8 (fun h => h.elim (fun h => h h5_13) (fun h => h5_23 (by rwa [hfe] at h))))) (by rw [hfe, hl1]; exact h7_8) hj hea (fun id q1 q2 q3 => by rw [he]; simp (disch := omega) only [↓app0, ↓appC, ↓updN]) (by rw [he]; simp (disch := omega) only [↓app0, ↓appC, ↓updS, ↓updN]; exact congrArg (fun z => some (Blk.mk z 0 304)) hrow) (by rw [he]; simp (disch := omega) only [↓app0, ↓appC, ↓updS, ↓updN]; rw [List.map_append]; rfl)) (by dsimp only; omega)) (by (repeat first | exact LE.nil _ | refine LE.unk _ _ ?_ | refine LE.eq _ _ _ rfl ?_)) (LessH.refl _) (Nat.le_refl _)
  ·(apply est (u := .agg [.int _ _, .int _ _, .int _ _, .int _ _]) j3; exact Q0; rfl; exact j4; exact kb; rfl)
   have hq := hI.done (by omega)
   rw [hq]; exact B4 (A0 (A3 rfl (by ((simp (disch := omega) only [↓app0, ↓appC, ↓updS, ↓updN]) <;> first | rfl | assumption)) j2 kb rfl) (A0 rfl A2)) rfl
 ·skip
  have hno2 : ∀ e ∈ M, e.an ≠ (L.getD i Rp0).an := fun e he q => hno ⟨e, he, q⟩
  have hfe : f (L.getD i Rp0).an = [] := hI.fn _ hno2
  have hks := keysM hI.ok
  have hn0 := rowNo hno2
  have hrow : ((M.map Me.row ++ [[V.agg (L.getD i Rp0).an.V, V.nsl]]).set (M.map Me.row).length [V.agg (L.getD i Rp0).an.V, V.view (N + 2) 0 1]) = (M ++ [Me.mk (L.getD i Rp0).an [(L.getD i Rp0).nd] 1 (N + 2)]).map Me.row := by rw [List.map_append]; simp; rfl
  have hks2 : (L.getD i Rp0).an.OK → KeysOK En.P 165 ((M.map Me.row ++ [[V.agg (L.getD i Rp0).an.V, V.nsl]]).set (M.map Me.row).length [V.agg (L.getD i Rp0).an.V, V.view (N + 2) 0 1]) := fun ho => by
   rw [hrow]
   refine keysM fun x hx => ?_
   rcases List.mem_append.1 hx with h | h
   ·exact hI.ok x h
   ·obtain rfl := List.mem_singleton.1 h; exact ho
  have hg2 : ((M.map Me.row ++ [[V.agg (L.getD i Rp0).an.V, V.nsl]]).set (M.map Me.row).length [V.agg (L.getD i Rp0).an.V, V.view (N + 2) 0 1])[(M.map Me.row).length]? = some [.agg (L.getD i Rp0).an.V, .view (N + 2) 0 1] := List.getElem?_set_self (by simp)
  have hu2 : ∀ (k : Nat) (x : V), ((M.map Me.row ++ [[V.agg (L.getD i Rp0).an.V, V.nsl]]).set (M.map Me.row).length [V.agg (L.getD i Rp0).an.V, V.view (N + 2) 0 1])[k]? = some [.agg (L.getD i Rp0).an.V, x] → k = (M.map Me.row).length := fun k x hk => by
   by_cases h : k = (M.map Me.row).length
   ·exact h
   ·rw [List.getElem?_set_ne (Ne.symm h)] at hk
    by_cases h2 : k < (M.map Me.row).length
    ·rw [List.getElem?_append_left h2] at hk
     exact absurd rfl (hn0 k _ x hk)
    ·have := (List.getElem?_eq_some_iff.1 hk).1
     simp at this h h2
     omega
  refine A6 (st := []) ?_
  refine br ?_ ?_ <;> intro h3_0
  ·(refine B9 (C5 (by first | rfl | assumption | (exact A9 Rp.T Rp0 (by omega))) rfl ?_))
   (apply est (u := .agg [.int _ _, .int _ _, .int _ _, .int _ _, .int _ _, .int _ _, .int _ _, .str _]) j3; exact Q0; rfl; exact j4; exact kb; rfl)
   refine A1 ?_
   refine br ?_ ?_ <;> intro h5_3
   ·refine D3 ⟨by exact X5, by exact X5⟩ ?_
    refine wlC fun h2 he => ?_
    first
     | exact C6 (ih (i + 1, M, f, h2, N + 1) (hI.skip (by omega) (by first | exact .inl h5_3 | exact .inr (.inl h5_8) | exact .inr (.inr (.inl h5_13)) | exact .inr (.inr (.inr (by rw [hfe]; exact h5_23)))) (Nat.le_succ _) (fun id hid => by rw [he]; simp (disch := omega) only [↓app0, ↓appC, ↓updN])) (by dsimp only; omega)) (by (repeat first | exact LE.nil _ | refine LE.unk _ _ ?_ | refine LE.eq _ _ _ rfl ?_)) (LessH.refl _) (Nat.le_refl _)
     | exact C6 (ih (i + 1, M ++ [Me.mk (L.getD i Rp0).an [(L.getD i Rp0).nd] 1 (N + 2)], addF f (L.getD i Rp0), h2, N + 3) (hI.miss (by omega) (fun hs => hs.elim h5_3 (fun h => h.elim h5_8 (fun h => h.elim (fun h => h h5_13) (fun h => h5_23 (by rwa [hfe] at h))))) h5_13.2.1.2.2.2 (by rw [hfe]; exact h7_8) hno2 (fun id q1 q2 => by rw [he]; simp (disch := omega) only [↓app0, ↓appC, ↓updN]) (by rw [he]; simp (disch := omega) only [↓app0, ↓appC, ↓updS, ↓updN]; exact congrArg (fun z => some (Blk.mk z 0 304)) hrow) (by rw [he]; simp (disch := omega) only [↓app0, ↓appC, ↓updS, ↓updN]; rfl)) (by dsimp only; omega)) (by (repeat first | exact LE.nil _ | refine LE.unk _ _ ?_ | refine LE.eq _ _ _ rfl ?_)) (LessH.refl _) (Nat.le_refl _)
   ·refine A1 ?_
    refine br ?_ ?_ <;> intro h5_8
    ·refine D3 ⟨by exact X5, by exact X5⟩ ?_
     refine wlC fun h2 he => ?_
     first
      | exact C6 (ih (i + 1, M, f, h2, N + 1) (hI.skip (by omega) (by first | exact .inl h5_3 | exact .inr (.inl h5_8) | exact .inr (.inr (.inl h5_13)) | exact .inr (.inr (.inr (by rw [hfe]; exact h5_23)))) (Nat.le_succ _) (fun id hid => by rw [he]; simp (disch := omega) only [↓app0, ↓appC, ↓updN])) (by dsimp only; omega)) (by (repeat first | exact LE.nil _ | refine LE.unk _ _ ?_ | refine LE.eq _ _ _ rfl ?_)) (LessH.refl _) (Nat.le_refl _)
      | exact C6 (ih (i + 1, M ++ [Me.mk (L.getD i Rp0).an [(L.getD i Rp0).nd] 1 (N + 2)], addF f (L.getD i Rp0), h2, N + 3) (hI.miss (by omega) (fun hs => hs.elim h5_3 (fun h => h.elim h5_8 (fun h => h.elim (fun h => h h5_13) (fun h => h5_23 (by rwa [hfe] at h))))) h5_13.2.1.2.2.2 (by rw [hfe]; exact h7_8) hno2 (fun id q1 q2 => by rw [he]; simp (disch := omega) only [↓app0, ↓appC, ↓updN]) (by rw [he]; simp (disch := omega) only [↓app0, ↓appC, ↓updS, ↓updN]; exact congrArg (fun z => some (Blk.mk z 0 304)) hrow) (by rw [he]; simp (disch := omega) only [↓app0, ↓appC, ↓updS, ↓updN]; rfl)) (by dsimp only; omega)) (by (repeat first | exact LE.nil _ | refine LE.unk _ _ ?_ | refine LE.eq _ _ _ rfl ?_)) (LessH.refl _) (Nat.le_refl _)
    ·(apply C3 (vs := [.int _ _, .int _ _, .int _ _, .int _ _, .int _ _, .int _ _, .int _ _, .str _]) j2; exact Q0; rfl; rfl; exact kb; rfl)
     refine B0 (p27 n (L.getD i Rp0)) rfl j2 ?_ ?_ <;> intro h5_13
     ·(apply C3 (vs := [.int _ _, .int _ _, .int _ _, .int _ _]) j2; exact Q0; rfl; rfl; exact kb; rfl)
      (apply elkm (zv := .slice none 0 0) (v := .nsl) j3 keyL; ((simp (disch := omega) only [↓app0, ↓appC, ↓updS, ↓updN]) <;> first | rfl | assumption); exact hks; rfl; exact keyA _ h5_13.2.1.2.2.2; exact hn0; exact j2)
      refine A1 ?_
      refine B0 (p41n _) rfl j2 ?_ ?_ <;> intro h5_23
      ·refine D3 ⟨by exact X5, by exact X5⟩ ?_
       refine wlC fun h2 he => ?_
       first
        | exact C6 (ih (i + 1, M, f, h2, N + 1) (hI.skip (by omega) (by first | exact .inl h5_3 | exact .inr (.inl h5_8) | exact .inr (.inr (.inl h5_13)) | exact .inr (.inr (.inr (by rw [hfe]; exact h5_23)))) (Nat.le_succ _) (fun id hid => by rw [he]; simp (disch := omega) only [↓app0, ↓appC, ↓updN])) (by dsimp only; omega)) (by (repeat first | exact LE.nil _ | refine LE.unk _ _ ?_ | refine LE.eq _ _ _ rfl ?_)) (LessH.refl _) (Nat.le_refl _)
        | exact C6 (ih (i + 1, M ++ [Me.mk (L.getD i Rp0).an [(L.getD i Rp0).nd] 1 (N + 2)], addF f (L.getD i Rp0), h2, N + 3) (hI.miss (by omega) (fun hs => hs.elim h5_3 (fun h => h.elim h5_8 (fun h => h.elim (fun h => h h5_13) (fun h => h5_23 (by rwa [hfe] at h))))) h5_13.2.1.2.2.2 (by rw [hfe]; exact h7_8) hno2 (fun id q1 q2 => by rw [he]; simp (disch := omega) only [↓app0, ↓appC, ↓updN]) (by rw [he]; simp (disch := omega) only [↓app0, ↓appC, ↓updS, ↓updN]; exact congrArg (fun z => some (Blk.mk z 0 304)) hrow) (by rw [he]; simp (disch := omega) only [↓app0, ↓appC, ↓updS, ↓updN]; rfl)) (by dsimp only; omega)) (by (repeat first | exact LE.nil _ | refine LE.unk _ _ ?_ | refine LE.eq _ _ _ rfl ?_)) (LessH.refl _) (Nat.le_refl _)
      ·(apply C3 (vs := [.int _ _, .int _ _, .int _ _, .int _ _]) j2; exact Q0; rfl; rfl; exact kb; rfl)
       refine A1 ?_
       refine F7 (es := [[.int _ _]]) j4 kz kb rfl rfl ?_
       (apply emem (zv := .slice none 0 0) (v := .nsl) j3 keyL; ((simp (disch := omega) only [↓app0, ↓appC, ↓updS, ↓updN]) <;> first | rfl | assumption); exact hks; rfl; exact keyA _ h5_13.2.1.2.2.2; exact hn0; exact j2)
       (apply ean (s' := 8) (es := [[.int _ _]]) rfl j3 kz; exact L7; exact Q3; exact Q39; exact Q39; exact Q39)
       (apply ees (m := (M.map Me.row).length) (kv := .agg (L.getD i Rp0).an.V) (vv := .nsl) (u := .view _ _ _) j4; ((simp (disch := omega) only [↓app0, ↓appC, ↓updS, ↓updN]) <;> first | rfl | assumption); exact List.getElem?_concat_length)
       (apply C3 (vs := [.int _ _, .int _ _, .int _ _, .int _ _]) j2; exact Q0; rfl; rfl; exact kb; rfl)
       (apply elkh (m := (M.map Me.row).length) (v := .view (N + 2) 0 1) j3 keyL; ((simp (disch := omega) only [↓app0, ↓appC, ↓updS, ↓updN]) <;> first | rfl | assumption); exact hks2 h5_13.2.1.2.2.2; rfl; exact keyA _ h5_13.2.1.2.2.2; exact hg2; exact hu2)
       refine D3 ⟨by exact X5, by exact X5⟩ ?_
       refine B9 ?_
       refine br ?_ ?_ <;> intro h7_8
       ·(apply C3 (vs := [.int _ _, .int _ _, .int _ _, .int _ _]) j2; exact Q0; rfl; rfl; exact kb; rfl)
        (apply est (u := .agg [.int _ _, .int _ _, .int _ _, .int _ _]) j3; exact Q0; rfl; exact j4; exact kb; rfl)
        have hq := hI.found (by omega) (fun hs => hs.elim h5_3 (fun h => h.elim h5_8 (fun h => h.elim (fun h => h h5_13) (fun h => h5_23 (by rwa [hfe] at h))))) (by rw [hfe]; exact h7_8)
        rw [hq]; exact B4 (A0 (A3 rfl (by ((simp (disch := omega) only [↓app0, ↓appC, ↓updS, ↓updN]) <;> first | rfl | assumption)) j2 kb rfl) (A0 rfl A2)) rfl
       ·refine D3 ⟨by exact X5, by exact X5⟩ ?_
        refine wlC fun h2 he => ?_
        first
         | exact C6 (ih (i + 1, M, f, h2, N + 1) (hI.skip (by omega) (by first | exact .inl h5_3 | exact .inr (.inl h5_8) | exact .inr (.inr (.inl h5_13)) | exact .inr (.inr (.inr (by rw [hfe]; exact h5_23)))) (Nat.le_succ _) (fun id hid => by rw [he]; simp (disch := omega) only [↓app0, ↓appC, ↓updN])) (by dsimp only; omega)) (by (repeat first | exact LE.nil _ | refine LE.unk _ _ ?_ | refine LE.eq _ _ _ rfl ?_)) (LessH.refl _) (Nat.le_refl _)
         | exact C6 (ih (i + 1, M ++ [Me.mk (L.getD i Rp0).an [(L.getD i Rp0).nd] 1 (N + 2)], addF f (L.getD i Rp0), h2, N + 3) (hI.miss (by omega) (fun hs => hs.elim h5_3 (fun h => h.elim h5_8 (fun h => h.elim (fun h => h h5_13) (fun h => h5_23 (by rwa [hfe] at h))))) h5_13.2.1.2.2.2 (by rw [hfe]; exact h7_8) hno2 (fun id q1 q2 => by rw [he]; simp (disch := omega) only [↓app0, ↓appC, ↓updN]) (by rw [he]; simp (disch := omega) only [↓app0, ↓appC, ↓updS, ↓updN]; exact congrArg (fun z => some (Blk.mk z 0 304)) hrow) (by rw [he]; simp (disch := omega) only [↓app0, ↓appC, ↓updS, ↓updN]; rfl)) (by dsimp only; omega)) (by (repeat first | exact LE.nil _ | refine LE.unk _ _ ?_ | refine LE.eq _ _ _ rfl ?_)) (LessH.refl _) (Nat.le_refl _)
     ·refine D3 ⟨by exact X5, by exact X5⟩ ?_
      refine wlC fun h2 he => ?_
      first
       | exact C6 (ih (i + 1, M, f, h2, N + 1) (hI.skip (by omega) (by first | exact .inl h5_3 | exact .inr (.inl h5_8) | exact .inr (.inr (.inl h5_13)) | exact .inr (.inr (.inr (by rw [hfe]; exact h5_23)))) (Nat.le_succ _) (fun id hid => by rw [he]; simp (disch := omega) only [↓app0, ↓appC, ↓updN])) (by dsimp only; omega)) (by (repeat first | exact LE.nil _ | refine LE.unk _ _ ?_ | refine LE.eq _ _ _ rfl ?_)) (LessH.refl _) (Nat.le_refl _)
       | exact C6 (ih (i + 1, M ++ [Me.mk (L.getD i Rp0).an [(L.getD i Rp0).nd] 1 (N + 2)], addF f (L.getD i Rp0), h2, N + 3) (hI.miss (by omega) (fun hs => hs.elim h5_3 (fun h => h.elim h5_8 (fun h => h.elim (fun h => h h5_13) (fun h => h5_23 (by rwa [hfe] at h))))) h5_13.2.1.2.2.2 (by rw [hfe]; exact h7_8) hno2 (fun id q1 q2 => by rw [he]; simp (disch := omega) only [↓app0, ↓appC, ↓updN]) (by rw [he]; simp (disch := omega) only [↓app0, ↓appC, ↓updS, ↓updN]; exact congrArg (fun z => some (Blk.mk z 0 304)) hrow) (by rw [he]; simp (disch := omega) only [↓app0, ↓appC, ↓updS, ↓updN]; rfl)) (by dsimp only; omega)) (by (repeat first | exact LE.nil _ | refine LE.unk _ _ ?_ | refine LE.eq _ _ _ rfl ?_)) (LessH.refl _) (Nat.le_refl _)
  ·(apply est (u := .agg [.int _ _, .int _ _, .int _ _, .int _ _]) j3; exact Q0; rfl; exact j4; exact kb; rfl)
   have hq := hI.done (by omega)
   rw [hq]; exact B4 (A0 (A3 rfl (by ((simp (disch := omega) only [↓app0, ↓appC, ↓updS, ↓updN]) <;> first | rfl | assumption)) j2 kb rfl) (A0 rfl A2)) rfl
open Go.V
set_option linter.unusedVariables false
set_option linter.unusedSimpArgs false
set_option maxRecDepth 20000
set_option maxHeartbeats 4000000
theorem eqAn (x y : An) : eqV En.P 10000 165 (.agg x.V) (.agg y.V) = some (x.kd == y.kd && (x.tk == y.tk && (x.hd == y.hd && (x.ex == y.ex && true)))) := by kernel_rfl
theorem goD_cons (n c s : Int) (f : An → List Int) (r : Rp) (R : List Rp) : goD n c s f (r :: R) = if skp n c s f r then goD n c s f R else if IntKind.i64.wrap ((n - 1).tdiv 3) < ((f r.an).length + 1 : Nat) then some r.an else goD n c s (addF f r) R := rfl
theorem W4 {x y : An} : (x.kd == y.kd && (x.tk == y.tk && (x.hd == y.hd && (x.ex == y.ex && true)))) = true ↔ x = y := by
 obtain ⟨a, b, c, d⟩ := x; obtain ⟨a', b', c', d'⟩ := y
 simp only [Bool.and_eq_true, beq_iff_eq, and_true, An.mk.injEq]
def okR (n c s : Int) (r : Rp) : Prop := r.fits n ∧ r.cl = c ∧ r.st = s
noncomputable instance (n c s : Int) (r : Rp) : Decidable (okR n c s r) := Classical.propDecidable _
noncomputable def stp (n c s : Int) (a : An) (r : Rp) (acc : List Int) : List Int := if okR n c s r ∧ r.an = a ∧ r.nd ∉ acc then acc ++ [r.nd] else acc
noncomputable def frmT (n c s : Int) (L : List Rp) (a : An) : Nat → List Int
 | 0 => []
 | k + 1 => stp n c s a (L.getD k Rp0) (frmT n c s L a k)
theorem D0 (n c s : Int) (L : List Rp) (a : An) (k : Nat) : frmT n c s L a (k + 1) = stp n c s a (L.getD k Rp0) (frmT n c s L a k) := rfl
theorem stp_le (n c s : Int) (a : An) (r : Rp) (acc : List Int) : (stp n c s a r acc).length ≤ acc.length + 1 := by
 unfold stp; split
 ·rw [List.length_append]; exact Nat.le_refl _
 ·exact Nat.le_succ _
theorem frmT_le (n c s : Int) (L : List Rp) (a : An) : ∀ k, (frmT n c s L a k).length ≤ k
 | 0 => Nat.le_refl _
 | k + 1 => by have h1 := stp_le n c s a (L.getD k Rp0) (frmT n c s L a k); have h2 := frmT_le n c s L a k; rw [D0]; omega
def qn (n : Int) : Int := IntKind.i64.wrap ((n - 1).tdiv 3)
noncomputable def FF (n c s : Int) (L : List Rp) (i : Nat) : An → List Int := fun a => frmT n c s L a i
theorem qn_nn {n : Int} (hn : nodes n) : 0 ≤ qn n := by rcases hn with rfl | rfl | rfl <;> decide
theorem go_step {n c s : Int} (hn : nodes n) {L : List Rp} {i : Nat} (hi : i < L.length) (hq : ∀ a, ((FF n c s L i a).length : Int) ≤ qn n) :
  goD n c s (FF n c s L i) (L.drop i) = if qn n < ((frmT n c s L (L.getD i Rp0).an (i + 1)).length : Int) then some (L.getD i Rp0).an else goD n c s (FF n c s L (i + 1)) (L.drop (i + 1)) := by
 rw [L9 hi, goD_cons]
 by_cases hs : skp n c s (FF n c s L i) (L.getD i Rp0)
 ·have hno : ∀ a, ¬ (okR n c s (L.getD i Rp0) ∧ (L.getD i Rp0).an = a ∧ (L.getD i Rp0).nd ∉ frmT n c s L a i) := by
   rintro a ⟨h1, rfl, h3⟩
   rcases hs with h | h | h | h
   ·exact h h1.2.1
   ·exact h h1.2.2
   ·exact h ((N7 hn _).1 h1.1)
   ·exact h3 h
  have e : ∀ a, frmT n c s L a (i + 1) = frmT n c s L a i := fun a => by rw [D0]; unfold stp; rw [if_neg (hno a)]
  rw [if_pos hs, e, if_neg (by have := hq (L.getD i Rp0).an; unfold FF at this; omega)]
  have e2 : FF n c s L (i + 1) = FF n c s L i := funext fun a => e a
  rw [e2]
 ·have hk : okR n c s (L.getD i Rp0) ∧ (L.getD i Rp0).nd ∉ frmT n c s L (L.getD i Rp0).an i := by
   unfold skp at hs
   refine ⟨⟨(N7 hn _).2 ?_, ?_, ?_⟩, fun h => hs (.inr (.inr (.inr h)))⟩
   ·exact Classical.byContradiction fun h => hs (.inr (.inr (.inl h)))
   ·exact Classical.byContradiction fun h => hs (.inl h)
   ·exact Classical.byContradiction fun h => hs (.inr (.inl h))
  have e : frmT n c s L (L.getD i Rp0).an (i + 1) = frmT n c s L (L.getD i Rp0).an i ++ [(L.getD i Rp0).nd] := by
   rw [D0]; unfold stp; rw [if_pos ⟨hk.1, rfl, hk.2⟩]
  have e2 : FF n c s L (i + 1) = addF (FF n c s L i) (L.getD i Rp0) := by
   funext b
   unfold FF addF
   by_cases hb : b = (L.getD i Rp0).an
   ·rw [if_pos hb, hb, e]
   ·rw [if_neg hb, D0]; unfold stp; rw [if_neg (fun h => hb h.2.1.symm)]
  rw [if_neg hs, e, List.length_append, e2]
  rfl
theorem qn_step {n c s : Int} {L : List Rp} {i : Nat} (hq : ∀ a, ((FF n c s L i a).length : Int) ≤ qn n) (h : ¬ qn n < ((frmT n c s L (L.getD i Rp0).an (i + 1)).length : Int)) : ∀ a, ((FF n c s L (i + 1) a).length : Int) ≤ qn n := fun a => by
 unfold FF
 by_cases ha : a = (L.getD i Rp0).an
 ·rw [ha]; omega
 ·have : frmT n c s L a (i + 1) = frmT n c s L a i := by rw [D0]; unfold stp; rw [if_neg (fun h => ha h.2.1.symm)]
  rw [this]; exact hq a
theorem K5 {n c s : Int} {a : An} {r : Rp} {acc : List Int} (h : ¬ (okR n c s r ∧ r.an = a ∧ r.nd ∉ acc)) : stp n c s a r acc = acc := if_neg h
theorem N8 {n c s : Int} {a : An} {r : Rp} {acc : List Int} (h : okR n c s r ∧ r.an = a ∧ r.nd ∉ acc) : stp n c s a r acc = acc ++ [r.nd] := if_pos h
attribute [irreducible] frmT
theorem s54 (n c s : Int) (nn : Bool) (L : List Rp) (hn : nodes n) (hL : L.length ≤ 1000) : Pure En 197 [.one (.int .i64 n), .one (.int .i64 c), .one (.int .i64 s), .one (.sl nn (L.map Rp.T))] [.agg ((dec n c s L).getD An0).T, .one (.bool (dec n c s L).isSome)] := by
 have hl : (L.map Rp.T).length = L.length := List.length_map ..
 refine Pure.of_ev (st := []) Tryz.func197 rfl kb ?_
 refine B3 (fun (a : Nat × Nat) => [.int .i64 n, .int .i64 c, .int .i64 s, .sl false nn (L.map Rp.T), .unk, .unk, .unk, .unk, .ptr 0 0 0, .unk, .int .i64 a.1]) (fun (a : Nat × Nat) => hp [(0, ⟨[An0.V], 4, 165⟩)]) (fun (a : Nat × Nat) => a.2) (fun (a : Nat × Nat) => a.1 ≤ L.length ∧ 1 ≤ a.2 ∧ (∀ b, ((FF n c s L a.1 b).length : Int) ≤ qn n) ∧ goD n c s (FF n c s L a.1) (L.drop a.1) = dec n c s L) (fun (a : Nat × Nat) => L.length - a.1) (0, 1) ?_ ?_ ?_ ?_ ?_
 ·exact ⟨Nat.zero_le _, Nat.le_refl _, fun b => by unfold FF; unfold frmT; exact qn_nn hn, by unfold dec; unfold FF; unfold frmT; rfl⟩
 ·(repeat first | exact LE.nil _ | refine LE.unk _ _ ?_ | refine LE.eq _ _ _ rfl ?_)
 ·(repeat first | exact A5 | (refine A4 ?_ ?_; exact H8))
 ·exact Nat.le_refl _
 intro ⟨i, N⟩ hI ih
 dsimp only at hI ⊢
 have hO := hI
 have ihO := ih
 refine A6 (st := []) ?_
 refine br ?_ ?_ <;> intro h2_3
 ·refine F7 (es := []) j4 kz kb rfl rfl ?_
  refine B3 (fun (a : Nat × Nat × Nat × Nat) => [.int .i64 n, .int .i64 c, .int .i64 s, .sl false nn (L.map Rp.T), .unk, .unk, .unk, .unk, .ptr 0 0 0, .unk, .int .i64 i, .view a.2.2.1 0 a.2.1, .int .i64 a.1]) (fun (a : Nat × Nat × Nat × Nat) => hp [(0, ⟨[An0.V], 4, 165⟩), (a.2.2.1, ⟨(frmT n c s L (L.getD i Rp0).an a.1).map jV, 1, 3⟩)]) (fun (a : Nat × Nat × Nat × Nat) => a.2.2.2) (fun (a : Nat × Nat × Nat × Nat) => a.1 ≤ i + 1 ∧ (0 < a.2.2.1 ∧ a.2.2.1 < a.2.2.2) ∧ N ≤ a.2.2.2 ∧ (frmT n c s L (L.getD i Rp0).an a.1).length = a.2.1) (fun (a : Nat × Nat × Nat × Nat) => i + 1 - a.1) (0, 0, N, N + 1) ?_ ?_ ?_ ?_ ?_
  ·exact ⟨Nat.zero_le _, ⟨by dsimp only; omega, by dsimp only; omega⟩, by dsimp only; omega, by dsimp only; unfold frmT; rfl⟩
  ·(repeat first | exact LE.nil _ | refine LE.unk _ _ ?_ | refine LE.eq _ _ _ rfl ?_)
  ·dsimp only
   (repeat first | exact A5 | (refine A4 ?_ ?_; (first | exact Q0 | (first | (focus (((simp (disch := omega) only [app, upd, hp, if_pos, if_neg])); exact congrArg (fun z => some (Blk.mk (List.map jV z) 1 3)) (show [] = frmT n c s L _ 0 by unfold frmT; rfl)))))))
  ·exact Nat.le_refl _
  intro ⟨k, ln, id, m2⟩ hI ih
  dsimp only at hI ⊢
  have hle := frmT_le n c s L (L.getD i Rp0).an k
  refine A6 (st := []) ?_
  refine br ?_ ?_ <;> intro h6_2
  ·(refine B9 (C5 (by first | rfl | assumption | (exact A9 Rp.T Rp0 (by omega))) rfl ?_))
   (apply est (u := .agg [.int _ _, .int _ _, .int _ _, .int _ _, .int _ _, .int _ _, .int _ _, .str _]) j3; exact Q0; rfl; exact j4; exact kb; rfl)
   (apply C3 (vs := [.int _ _, .int _ _, .int _ _, .int _ _, .int _ _, .int _ _, .int _ _, .str _]) j2; exact Q0; rfl; rfl; exact kb; rfl)
   refine B0 (s53 n (L.getD k Rp0)) rfl j2 ?_ ?_ <;> intro h9_2
   ·refine A1 ?_
    refine br ?_ ?_ <;> intro h9_7
    ·refine A1 ?_
     refine br ?_ ?_ <;> intro h9_13
     ·(apply C3 (vs := [.int _ _, .int _ _, .int _ _, .int _ _]) j2; exact Q0; rfl; rfl; exact kb; rfl)
      (refine B9 (C5 (by first | rfl | assumption | (exact A9 Rp.T Rp0 (by omega))) rfl ?_))
      refine eSeql j3 (by kernel_rfl) (eqAn (L.getD ((k : Nat) : Int).toNat Rp0).an (L.getD ((i : Nat) : Int).toNat Rp0).an) ?_ ?_ <;> intro h9_23
      ·refine A1 ?_
       apply eclSP [id] (s79 true (frmT n c s L (L.getD i Rp0).an k) _ (by omega)) rfl j2
       ·exact SnapL.cons _ _ _ _ (.one _ _ (B5 (b := ⟨(frmT n c s L (L.getD i Rp0).an k).map jV, 1, 3⟩) ((frmT n c s L (L.getD i Rp0).an k).map jT) (List.mem_singleton.2 rfl) (by exact Q0) (rowsJ _) (by rw [List.length_map]; omega))) (SnapL.cons _ _ _ _ (.one _ _ (.int _ _)) SnapL.nil)
       all_goals intro h9_29
       ·refine D3 ⟨by exact Q40, by exact Q40⟩ ?_
        first
         | (have e4 : (frmT n c s L (L.getD i Rp0).an k) = (frmT n c s L (L.getD i Rp0).an (k + 1)) := by
              rw [D0, K5]
              rintro ⟨⟨w1, w2, w3⟩, w4, w5⟩
              first | contradiction | exact absurd w2 h9_7 | exact absurd w3 h9_13 | (rw [Int.toNat_natCast, Int.toNat_natCast] at h9_23; rw [W4.2 w4] at h9_23; cases h9_23) | exact absurd h9_29 w5 | omega
            exact C6 (ih (k + 1, ln, id, m2 + 1) ⟨by dsimp only; omega, by dsimp only; omega, by dsimp only; omega, by dsimp only; rw [← e4]; exact hI.2.2.2⟩ (by dsimp only; omega)) (by (repeat first | exact LE.nil _ | refine LE.unk _ _ ?_ | refine LE.eq _ _ _ rfl ?_)) (by dsimp only; (repeat first | exact A5 | (refine A4 ?_ ?_; exact Q11))) (Nat.le_refl _))
         | (have e3 : (frmT n c s L (L.getD i Rp0).an (k + 1)) = (frmT n c s L (L.getD i Rp0).an k) ++ [(L.getD k Rp0).nd] := by
              rw [D0, N8]
              rw [Int.toNat_natCast, Int.toNat_natCast] at h9_23; exact ⟨⟨h9_2, h9_7, h9_13⟩, W4.1 h9_23, h9_29⟩
            have e5 : (frmT n c s L (L.getD i Rp0).an k).map jV ++ [[.int .i64 (L.getD k Rp0).nd]] = (frmT n c s L (L.getD i Rp0).an (k + 1)).map jV := by rw [e3, List.map_append]; rfl
            exact C6 (ih (k + 1, ln + 1, m2 + 2, m2 + 3) ⟨by dsimp only; omega, by dsimp only; omega, by dsimp only; omega, by dsimp only; rw [e3, List.length_append, hI.2.2.2]; rfl⟩ (by dsimp only; omega)) (by (repeat first | exact LE.nil _ | refine LE.unk _ _ ?_ | refine LE.eq _ _ _ rfl ?_)) (by dsimp only; (repeat first | exact A5 | (refine A4 ?_ ?_; exact Q11))) (Nat.le_refl _))
       ·refine A1 ?_
        refine F7 (es := [[.int _ _]]) j4 kz kb rfl rfl ?_
        (apply eap (s' := 8) (es := [[.int _ _]]) rfl rfl; exact Q0; exact j2; (first | rfl | omega | (rw [List.length_map]; omega)); exact j2; exact kz; exact L7; exact Q3; (first | omega | (focus (simp only [List.length_cons, List.length_nil]; omega)) | ((show (_ + 1) * _ ≤ _); omega) | ((show _ + 1 ≤ _); omega) | exact Nat.le_of_ble_eq_true rfl); (first | omega | (focus (simp only [List.length_cons, List.length_nil]; omega)) | ((show (_ + 1) * _ ≤ _); omega) | ((show _ + 1 ≤ _); omega) | exact Nat.le_of_ble_eq_true rfl))
        refine D3 ⟨by exact Q40, by exact Q40⟩ ?_
        first
         | (have e4 : (frmT n c s L (L.getD i Rp0).an k) = (frmT n c s L (L.getD i Rp0).an (k + 1)) := by
              rw [D0, K5]
              rintro ⟨⟨w1, w2, w3⟩, w4, w5⟩
              first | contradiction | exact absurd w2 h9_7 | exact absurd w3 h9_13 | (rw [Int.toNat_natCast, Int.toNat_natCast] at h9_23; rw [W4.2 w4] at h9_23; cases h9_23) | exact absurd h9_29 w5 | omega
            exact C6 (ih (k + 1, ln, id, m2 + 1) ⟨by dsimp only; omega, by dsimp only; omega, by dsimp only; omega, by dsimp only; rw [← e4]; exact hI.2.2.2⟩ (by dsimp only; omega)) (by (repeat first | exact LE.nil _ | refine LE.unk _ _ ?_ | refine LE.eq _ _ _ rfl ?_)) (by dsimp only; (repeat first | exact A5 | (refine A4 ?_ ?_; exact Q11))) (Nat.le_refl _))
         | (have e3 : (frmT n c s L (L.getD i Rp0).an (k + 1)) = (frmT n c s L (L.getD i Rp0).an k) ++ [(L.getD k Rp0).nd] := by
              rw [D0, N8]
              rw [Int.toNat_natCast, Int.toNat_natCast] at h9_23; exact ⟨⟨h9_2, h9_7, h9_13⟩, W4.1 h9_23, h9_29⟩
            have e5 : (frmT n c s L (L.getD i Rp0).an k).map jV ++ [[.int .i64 (L.getD k Rp0).nd]] = (frmT n c s L (L.getD i Rp0).an (k + 1)).map jV := by rw [e3, List.map_append]; rfl
            exact C6 (ih (k + 1, ln + 1, m2 + 2, m2 + 3) ⟨by dsimp only; omega, by dsimp only; omega, by dsimp only; omega, by dsimp only; rw [e3, List.length_append, hI.2.2.2]; rfl⟩ (by dsimp only; omega)) (by (repeat first | exact LE.nil _ | refine LE.unk _ _ ?_ | refine LE.eq _ _ _ rfl ?_)) (by dsimp only; (repeat first | exact A5 | (refine A4 ?_ ?_; exact Q11))) (Nat.le_refl _))
      ·refine D3 ⟨by exact Q40, by exact Q40⟩ ?_
       first
        | (have e4 : (frmT n c s L (L.getD i Rp0).an k) = (frmT n c s L (L.getD i Rp0).an (k + 1)) := by
             rw [D0, K5]
             rintro ⟨⟨w1, w2, w3⟩, w4, w5⟩
             first | contradiction | exact absurd w2 h9_7 | exact absurd w3 h9_13 | (rw [Int.toNat_natCast, Int.toNat_natCast] at h9_23; rw [W4.2 w4] at h9_23; cases h9_23) | exact absurd h9_29 w5 | omega
           exact C6 (ih (k + 1, ln, id, m2 + 1) ⟨by dsimp only; omega, by dsimp only; omega, by dsimp only; omega, by dsimp only; rw [← e4]; exact hI.2.2.2⟩ (by dsimp only; omega)) (by (repeat first | exact LE.nil _ | refine LE.unk _ _ ?_ | refine LE.eq _ _ _ rfl ?_)) (by dsimp only; (repeat first | exact A5 | (refine A4 ?_ ?_; exact Q11))) (Nat.le_refl _))
        | (have e3 : (frmT n c s L (L.getD i Rp0).an (k + 1)) = (frmT n c s L (L.getD i Rp0).an k) ++ [(L.getD k Rp0).nd] := by
             rw [D0, N8]
             rw [Int.toNat_natCast, Int.toNat_natCast] at h9_23; exact ⟨⟨h9_2, h9_7, h9_13⟩, W4.1 h9_23, h9_29⟩
           have e5 : (frmT n c s L (L.getD i Rp0).an k).map jV ++ [[.int .i64 (L.getD k Rp0).nd]] = (frmT n c s L (L.getD i Rp0).an (k + 1)).map jV := by rw [e3, List.map_append]; rfl
           exact C6 (ih (k + 1, ln + 1, m2 + 2, m2 + 3) ⟨by dsimp only; omega, by dsimp only; omega, by dsimp only; omega, by dsimp only; rw [e3, List.length_append, hI.2.2.2]; rfl⟩ (by dsimp only; omega)) (by (repeat first | exact LE.nil _ | refine LE.unk _ _ ?_ | refine LE.eq _ _ _ rfl ?_)) (by dsimp only; (repeat first | exact A5 | (refine A4 ?_ ?_; exact Q11))) (Nat.le_refl _))
     ·refine D3 ⟨by exact Q40, by exact Q40⟩ ?_
      first
       | (have e4 : (frmT n c s L (L.getD i Rp0).an k) = (frmT n c s L (L.getD i Rp0).an (k + 1)) := by
            rw [D0, K5]
            rintro ⟨⟨w1, w2, w3⟩, w4, w5⟩
            first | contradiction | exact absurd w2 h9_7 | exact absurd w3 h9_13 | (rw [Int.toNat_natCast, Int.toNat_natCast] at h9_23; rw [W4.2 w4] at h9_23; cases h9_23) | exact absurd h9_29 w5 | omega
          exact C6 (ih (k + 1, ln, id, m2 + 1) ⟨by dsimp only; omega, by dsimp only; omega, by dsimp only; omega, by dsimp only; rw [← e4]; exact hI.2.2.2⟩ (by dsimp only; omega)) (by (repeat first | exact LE.nil _ | refine LE.unk _ _ ?_ | refine LE.eq _ _ _ rfl ?_)) (by dsimp only; (repeat first | exact A5 | (refine A4 ?_ ?_; exact Q11))) (Nat.le_refl _))
       | (have e3 : (frmT n c s L (L.getD i Rp0).an (k + 1)) = (frmT n c s L (L.getD i Rp0).an k) ++ [(L.getD k Rp0).nd] := by
            rw [D0, N8]
            rw [Int.toNat_natCast, Int.toNat_natCast] at h9_23; exact ⟨⟨h9_2, h9_7, h9_13⟩, W4.1 h9_23, h9_29⟩
          have e5 : (frmT n c s L (L.getD i Rp0).an k).map jV ++ [[.int .i64 (L.getD k Rp0).nd]] = (frmT n c s L (L.getD i Rp0).an (k + 1)).map jV := by rw [e3, List.map_append]; rfl
          exact C6 (ih (k + 1, ln + 1, m2 + 2, m2 + 3) ⟨by dsimp only; omega, by dsimp only; omega, by dsimp only; omega, by dsimp only; rw [e3, List.length_append, hI.2.2.2]; rfl⟩ (by dsimp only; omega)) (by (repeat first | exact LE.nil _ | refine LE.unk _ _ ?_ | refine LE.eq _ _ _ rfl ?_)) (by dsimp only; (repeat first | exact A5 | (refine A4 ?_ ?_; exact Q11))) (Nat.le_refl _))
    ·refine D3 ⟨by exact Q40, by exact Q40⟩ ?_
     first
      | (have e4 : (frmT n c s L (L.getD i Rp0).an k) = (frmT n c s L (L.getD i Rp0).an (k + 1)) := by
           rw [D0, K5]
           rintro ⟨⟨w1, w2, w3⟩, w4, w5⟩
           first | contradiction | exact absurd w2 h9_7 | exact absurd w3 h9_13 | (rw [Int.toNat_natCast, Int.toNat_natCast] at h9_23; rw [W4.2 w4] at h9_23; cases h9_23) | exact absurd h9_29 w5 | omega
         exact C6 (ih (k + 1, ln, id, m2 + 1) ⟨by dsimp only; omega, by dsimp only; omega, by dsimp only; omega, by dsimp only; rw [← e4]; exact hI.2.2.2⟩ (by dsimp only; omega)) (by (repeat first | exact LE.nil _ | refine LE.unk _ _ ?_ | refine LE.eq _ _ _ rfl ?_)) (by dsimp only; (repeat first | exact A5 | (refine A4 ?_ ?_; exact Q11))) (Nat.le_refl _))
      | (have e3 : (frmT n c s L (L.getD i Rp0).an (k + 1)) = (frmT n c s L (L.getD i Rp0).an k) ++ [(L.getD k Rp0).nd] := by
           rw [D0, N8]
           rw [Int.toNat_natCast, Int.toNat_natCast] at h9_23; exact ⟨⟨h9_2, h9_7, h9_13⟩, W4.1 h9_23, h9_29⟩
         have e5 : (frmT n c s L (L.getD i Rp0).an k).map jV ++ [[.int .i64 (L.getD k Rp0).nd]] = (frmT n c s L (L.getD i Rp0).an (k + 1)).map jV := by rw [e3, List.map_append]; rfl
         exact C6 (ih (k + 1, ln + 1, m2 + 2, m2 + 3) ⟨by dsimp only; omega, by dsimp only; omega, by dsimp only; omega, by dsimp only; rw [e3, List.length_append, hI.2.2.2]; rfl⟩ (by dsimp only; omega)) (by (repeat first | exact LE.nil _ | refine LE.unk _ _ ?_ | refine LE.eq _ _ _ rfl ?_)) (by dsimp only; (repeat first | exact A5 | (refine A4 ?_ ?_; exact Q11))) (Nat.le_refl _))
   ·refine D3 ⟨by exact Q40, by exact Q40⟩ ?_
    first
     | (have e4 : (frmT n c s L (L.getD i Rp0).an k) = (frmT n c s L (L.getD i Rp0).an (k + 1)) := by
          rw [D0, K5]
          rintro ⟨⟨w1, w2, w3⟩, w4, w5⟩
          first | contradiction | exact absurd w2 h9_7 | exact absurd w3 h9_13 | (rw [Int.toNat_natCast, Int.toNat_natCast] at h9_23; rw [W4.2 w4] at h9_23; cases h9_23) | exact absurd h9_29 w5 | omega
        exact C6 (ih (k + 1, ln, id, m2 + 1) ⟨by dsimp only; omega, by dsimp only; omega, by dsimp only; omega, by dsimp only; rw [← e4]; exact hI.2.2.2⟩ (by dsimp only; omega)) (by (repeat first | exact LE.nil _ | refine LE.unk _ _ ?_ | refine LE.eq _ _ _ rfl ?_)) (by dsimp only; (repeat first | exact A5 | (refine A4 ?_ ?_; exact Q11))) (Nat.le_refl _))
     | (have e3 : (frmT n c s L (L.getD i Rp0).an (k + 1)) = (frmT n c s L (L.getD i Rp0).an k) ++ [(L.getD k Rp0).nd] := by
          rw [D0, N8]
          rw [Int.toNat_natCast, Int.toNat_natCast] at h9_23; exact ⟨⟨h9_2, h9_7, h9_13⟩, W4.1 h9_23, h9_29⟩
        have e5 : (frmT n c s L (L.getD i Rp0).an k).map jV ++ [[.int .i64 (L.getD k Rp0).nd]] = (frmT n c s L (L.getD i Rp0).an (k + 1)).map jV := by rw [e3, List.map_append]; rfl
        exact C6 (ih (k + 1, ln + 1, m2 + 2, m2 + 3) ⟨by dsimp only; omega, by dsimp only; omega, by dsimp only; omega, by dsimp only; rw [e3, List.length_append, hI.2.2.2]; rfl⟩ (by dsimp only; omega)) (by (repeat first | exact LE.nil _ | refine LE.unk _ _ ?_ | refine LE.eq _ _ _ rfl ?_)) (by dsimp only; (repeat first | exact A5 | (refine A4 ?_ ?_; exact Q11))) (Nat.le_refl _))
  ·refine D3 ⟨by exact Q40, by exact Q40⟩ ?_
   refine B9 ?_
   refine br ?_ ?_ <;> intro h11_5
   ·(refine B9 (C5 (by first | rfl | assumption | (exact A9 Rp.T Rp0 (by omega))) rfl ?_))
    (apply est (u := .agg [.int _ _, .int _ _, .int _ _, .int _ _]) j3; exact Q0; rfl; exact j4; exact kb; rfl)
    first
     | (have hz : dec n c s L = none := by
          rw [← hI.2.2.2, show i = L.length by omega, List.drop_length]; unfold goD; rfl
        rw [hz]; exact B4 (A0 (A3 rfl (by exact Q0) j2 kb rfl) (A0 rfl A2)) rfl)
     | (have hc := go_step hn (show i < L.length by omega) hO.2.2.1
        rw [if_pos (by unfold qn; have e : k = i + 1 := (by omega); subst e; rw [← hI.2.2.2] at h11_5; exact h11_5)] at hc
        have hz : dec n c s L = some (L.getD i Rp0).an := by rw [← hO.2.2.2, hc]
        rw [hz]; exact B4 (A0 (A3 rfl (by exact Q0) j2 kb rfl) (A0 rfl A2)) rfl)
   ·refine D3 ⟨by exact Q40, by exact Q40⟩ ?_
    have hc := go_step hn (show i < L.length by omega) hO.2.2.1
    rw [if_neg (by unfold qn; have e : k = i + 1 := (by omega); subst e; rw [hI.2.2.2]; omega)] at hc
    exact C6 (ihO (i + 1, m2) ⟨by dsimp only; omega, by dsimp only; omega, qn_step hO.2.2.1 (by unfold qn; have e : k = i + 1 := (by omega); subst e; rw [hI.2.2.2]; omega), by rw [← hc]; exact hO.2.2.2⟩ (by dsimp only; omega)) (by (repeat first | exact LE.nil _ | refine LE.unk _ _ ?_ | refine LE.eq _ _ _ rfl ?_)) (by (repeat first | exact A5 | (refine A4 ?_ ?_; exact H8))) (Nat.le_refl _)
 ·(apply est (u := .agg [.int _ _, .int _ _, .int _ _, .int _ _]) j3; exact Q0; rfl; exact j4; exact kb; rfl)
  first
   | (have hz : dec n c s L = none := by
        rw [← hI.2.2.2, show i = L.length by omega, List.drop_length]; unfold goD; rfl
      rw [hz]; exact B4 (A0 (A3 rfl (by exact Q0) j2 kb rfl) (A0 rfl A2)) rfl)
   | (have hc := go_step hn (show i < L.length by omega) hO.2.2.1
      rw [if_pos (by unfold qn; have e : k = i + 1 := (by omega); subst e; rw [← hI.2.2.2] at h11_5; exact h11_5)] at hc
      have hz : dec n c s L = some (L.getD i Rp0).an := by rw [← hO.2.2.2, hc]
      rw [hz]; exact B4 (A0 (A3 rfl (by exact Q0) j2 kb rfl) (A0 rfl A2)) rfl)
open Go.V
set_option linter.unusedVariables false
set_option linter.unusedSimpArgs false
set_option maxRecDepth 20000
set_option maxHeartbeats 4000000
def Cl.OK (n : Int) (c : Cl) : Prop := nodes n ∧ (0 ≤ c.id ∧ c.id ≤ 255) ∧ (0 ≤ c.st ∧ c.st ≤ 65535) ∧ (∀ a ∈ c.acc, a.OK) ∧
 ((c.bz = false ∧ (c.acc.length : Int) = c.st ∧ c.rq = Rq0 ∧ c.rps.length = 0) ∨
  (c.bz = true ∧ (c.acc.length : Int) = c.st - 1 ∧ (c.rq.OK ∧ c.rq.cl = c.id ∧ c.rq.st = c.st) ∧ c.rps.length ≤ 40 ∧ (∀ j, j < c.rps.length → (c.rps.getD j Rp0).OK n ∧ (c.rps.getD j Rp0).cl = c.id ∧ (c.rps.getD j Rp0).st = c.st) ∧ (dec n c.id c.st c.rps).isSome = false))
noncomputable instance (n : Int) (c : Cl) : Decidable (c.OK n) := Classical.propDecidable _
theorem eqRq0 (r : Rq) : eqV En.P 10000 163 (.agg [.int .i64 r.cl, .int .i64 r.st, .int .i64 r.kd, .int .i64 r.le, .str r.nm]) (.agg [.int .i64 0, .int .i64 0, .int .i64 0, .int .i64 0, .str ⟨#[]⟩]) = some (r.cl == 0 && (r.st == 0 && (r.kd == 0 && (r.le == 0 && (r.nm.toList == (⟨#[]⟩ : ByteArray).toList && true))))) := by kernel_rfl
theorem I5 (r : Rq) : (r.cl == 0 && (r.st == 0 && (r.kd == 0 && (r.le == 0 && (r.nm.toList == (⟨#[]⟩ : ByteArray).toList && true))))) = true ↔ r = Rq0 := by
 obtain ⟨a, b, c, d, e⟩ := r
 simp only [Bool.and_eq_true, beq_iff_eq, and_true, Rq0, Rq.mk.injEq, S4, decide_eq_true_eq]
theorem G9 {r : Rq} (h : (r.cl == 0 && (r.st == 0 && (r.kd == 0 && (r.le == 0 && (r.nm.toList == (⟨#[]⟩ : ByteArray).toList && true))))) = false) : r ≠ Rq0 := fun e => by rw [(I5 r).2 e] at h; cases h
theorem K6 {L : List An} {p : An → Prop} (h : ∀ j, j < L.length → p (L.getD j An0)) : ∀ a ∈ L, p a := fun a ha => by
 obtain ⟨j, hj, rfl⟩ := List.getElem_of_mem ha
 have := h j hj
 rwa [List.getD_eq_getElem?_getD, List.getElem?_eq_getElem hj] at this
theorem getD_mem {L : List An} {j : Nat} (hj : j < L.length) : L.getD j An0 ∈ L := by
 rw [List.getD_eq_getElem?_getD, List.getElem?_eq_getElem hj]; exact List.getElem_mem _
theorem q30 (n : Int) (c : Cl) (n1 n2 : Bool) (hL : c.acc.length ≤ 1048576) : Pure En 132 [.one (.int .i64 n), .agg (c.T n1 n2)] [.one (.bool (decide (c.OK n)))] := by
 have hl : (c.rps.map Rp.T).length = c.rps.length := List.length_map ..
 have hl2 : (c.acc.map An.T).length = c.acc.length := List.length_map ..
 refine Pure.of_ev (st := []) Tryz.func132 rfl kb ?_
 refine B0 (p22 n) rfl j2 ?_ ?_ <;> intro h1_1
 ·refine A1 ?_
  refine B0 (L4 _ _ _) rfl j2 ?_ ?_ <;> intro h1_6
  ·refine A1 ?_
   refine B0 (L4 _ _ _) rfl j2 ?_ ?_ <;> intro h1_12
   ·refine A1 ?_
    refine N2 (o23 false n2 c.acc (by omega)) rfl j2 ?_ ?_
    all_goals intro h1_18
    ·refine A7 rfl fun hw => ?_; obtain ⟨w1, w2, w3, w4, w5⟩ := hw; first | contradiction | omega | (obtain ⟨a, h1, h2⟩ := of_decide_eq_true h1_18; exact absurd (w4 a h1) h2)
    ·refine A1 ?_
     refine brB ?_ ?_ <;> intro h3_1
     ·refine A1 ?_
      refine A1 ?_
      refine C0 ?_
      refine br ?_ ?_ <;> intro h5_6
      ·refine A7 rfl fun hw => ?_
       obtain ⟨w1, w2, w3, w4, w5⟩ := hw
       rcases w5 with ⟨v1, v2, v3, v4⟩ | ⟨v1, v2, v3, v4, v5, v6⟩
       ·rw [v1] at h3_1; cases h3_1
       ·first | contradiction | omega
      ·(apply C3 (vs := [.int _ _, .int _ _, .int _ _, .int _ _, .str _]) j2; exact Q0; rfl; rfl; exact kb; rfl)
       refine A1 ?_
       refine A1 ?_
       refine B0 (p26 c.rq _ _) rfl j2 ?_ ?_ <;> intro h5_14
       ·refine A1 ?_
        refine br ?_ ?_ <;> intro h5_21
        ·refine A7 rfl fun hw => ?_
         obtain ⟨w1, w2, w3, w4, w5⟩ := hw
         rcases w5 with ⟨v1, v2, v3, v4⟩ | ⟨v1, v2, v3, v4, v5, v6⟩
         ·rw [v1] at h3_1; cases h3_1
         ·first | contradiction | omega
        ·refine A1 ?_
         refine B3 (fun (a : Nat × Nat) => [.int .i64 n, .unk, .unk, .ptr 0 0 0, .unk, .unk, .unk, .unk, .unk, .unk, .unk, .unk, .unk, .unk, .unk, .unk, .unk, .unk, .unk, .unk, .unk, .unk, .unk, .unk, .unk, .unk, .unk, .unk, .unk, .unk, .unk, .unk, .unk, .unk, .unk, .unk, .unk, .unk, .unk, .unk, .unk, .unk, .unk, .unk, .unk, .unk, .unk, .unk, .unk, .unk, .unk, .unk, .unk, .unk, .unk, .unk, .unk, .unk, .unk, .unk, .unk, .unk, .unk, .unk, .unk, .unk, .unk, .unk, .unk, .unk, .unk, .unk, .unk, .unk, .sl false n1 (c.rps.map Rp.T), .int .i64 (c.rps.map Rp.T).length, .int .i64 a.1]) (fun (a : Nat × Nat) => hp [(0, ⟨[(c.T n1 n2).map (T.toV false)], 10, 172⟩)]) (fun (a : Nat × Nat) => a.2) (fun (a : Nat × Nat) => a.1 ≤ c.rps.length ∧ 1 ≤ a.2 ∧ ∀ j, j < a.1 → (c.rps.getD j Rp0).OK n ∧ (c.rps.getD j Rp0).cl = c.id ∧ (c.rps.getD j Rp0).st = c.st) (fun (a : Nat × Nat) => c.rps.length - a.1) (0, 1) ?_ ?_ ?_ ?_ ?_
         ·exact ⟨Nat.zero_le _, Nat.le_refl _, E6⟩
         ·(repeat first | exact LE.nil _ | refine LE.unk _ _ ?_ | refine LE.eq _ _ _ rfl ?_)
         ·(repeat first | exact A5 | (refine A4 ?_ ?_; exact H8))
         ·exact Nat.le_refl _
         intro ⟨i, m⟩ hI ih
         dsimp only at hI ⊢
         refine A6 (st := []) ?_
         refine br ?_ ?_ <;> intro h8_0
         ·(refine B9 (C5 (by first | rfl | assumption | (exact A9 Rp.T Rp0 (by omega))) rfl ?_))
          (apply est (u := .agg [.int _ _, .int _ _, .int _ _, .int _ _, .int _ _, .int _ _, .int _ _, .str _]) j3; exact Q0; rfl; exact j4; exact kb; rfl)
          (apply C3 (vs := [.int _ _, .int _ _, .int _ _, .int _ _, .int _ _, .int _ _, .int _ _, .str _]) j2; exact Q0; rfl; rfl; exact kb; rfl)
          refine B0 (p27 n (c.rps.getD i Rp0)) rfl j2 ?_ ?_ <;> intro h10_2
          ·refine A1 ?_
           refine A1 ?_
           refine br ?_ ?_ <;> intro h10_9
           ·refine A7 rfl fun hw => ?_
            obtain ⟨w1, w2, w3, w4, w5⟩ := hw
            rcases w5 with ⟨v1, v2, v3, v4⟩ | ⟨v1, v2, v3, v4, v5, v6⟩
            ·rw [v1] at h3_1; cases h3_1
            ·obtain ⟨q1, q2, q3⟩ := v5 i (by omega)
             first | contradiction | omega
           ·refine A1 ?_
            refine A1 ?_
            refine br ?_ ?_ <;> intro h10_16
            ·refine A7 rfl fun hw => ?_
             obtain ⟨w1, w2, w3, w4, w5⟩ := hw
             rcases w5 with ⟨v1, v2, v3, v4⟩ | ⟨v1, v2, v3, v4, v5, v6⟩
             ·rw [v1] at h3_1; cases h3_1
             ·obtain ⟨q1, q2, q3⟩ := v5 i (by omega)
              first | contradiction | omega
            ·refine C0 ?_
             exact C6 (ih (i + 1, m + 1) ⟨by dsimp only; omega, by dsimp only; omega, C8 hI.2.2 ⟨h10_2, Classical.not_not.1 h10_9, Classical.not_not.1 h10_16⟩⟩ (by dsimp only; omega)) (by (repeat first | exact LE.nil _ | refine LE.unk _ _ ?_ | refine LE.eq _ _ _ rfl ?_)) (by (repeat first | exact A5 | (refine A4 ?_ ?_; exact H8))) (Nat.le_refl _)
          ·refine A7 rfl fun hw => ?_
           obtain ⟨w1, w2, w3, w4, w5⟩ := hw
           rcases w5 with ⟨v1, v2, v3, v4⟩ | ⟨v1, v2, v3, v4, v5, v6⟩
           ·rw [v1] at h3_1; cases h3_1
           ·obtain ⟨q1, q2, q3⟩ := v5 i (by omega)
            first | contradiction | omega
         ·refine A1 ?_
          refine A1 ?_
          refine A1 ?_
          refine C1 (p28 n c.id c.st n1 c.rps (by omega)) rfl rfl rfl ?_
          refine brB ?_ ?_ <;> intro h13_10
          ·(apply est (u := .agg [.int _ _, .int _ _, .int _ _, .int _ _]) j3; exact Q0; rfl; exact j4; exact kb; rfl)
           first
            | exact B7 rfl ⟨h1_1, by omega, by omega, (fun a ha => Classical.byContradiction fun h => of_decide_eq_false h1_18 ⟨a, ha, h⟩), .inr ⟨h3_1, by omega, h5_14, by omega, fun j hj => hI.2.2 j (by omega), h13_10⟩⟩
            | (refine A7 rfl fun hw => ?_
               obtain ⟨w1, w2, w3, w4, w5⟩ := hw
               rcases w5 with ⟨v1, v2, v3, v4⟩ | ⟨v1, v2, v3, v4, v5, v6⟩
               · rw [v1] at h3_1; cases h3_1
               · rw [v6] at h13_10; cases h13_10)
          ·(apply est (u := .agg [.int _ _, .int _ _, .int _ _, .int _ _]) j3; exact Q0; rfl; exact j4; exact kb; rfl)
           first
            | exact B7 rfl ⟨h1_1, by omega, by omega, (fun a ha => Classical.byContradiction fun h => of_decide_eq_false h1_18 ⟨a, ha, h⟩), .inr ⟨h3_1, by omega, h5_14, by omega, fun j hj => hI.2.2 j (by omega), h13_10⟩⟩
            | (refine A7 rfl fun hw => ?_
               obtain ⟨w1, w2, w3, w4, w5⟩ := hw
               rcases w5 with ⟨v1, v2, v3, v4⟩ | ⟨v1, v2, v3, v4, v5, v6⟩
               · rw [v1] at h3_1; cases h3_1
               · rw [v6] at h13_10; cases h13_10)
       ·refine A7 rfl fun hw => ?_
        obtain ⟨w1, w2, w3, w4, w5⟩ := hw
        rcases w5 with ⟨v1, v2, v3, v4⟩ | ⟨v1, v2, v3, v4, v5, v6⟩
        ·rw [v1] at h3_1; cases h3_1
        ·first | contradiction | omega
     ·refine A1 ?_
      refine A1 ?_
      refine br ?_ ?_ <;> intro h4_5
      ·(apply C3 (vs := [.int _ _, .int _ _, .int _ _, .int _ _, .str _]) j2; exact Q0; rfl; rfl; exact kb; rfl)
       refine eSeql j3 (by kernel_rfl) (eqRq0 c.rq) ?_ ?_ <;> intro h4_10
       ·refine A1 ?_
        refine br ?_ ?_ <;> intro h4_16
        ·first
          | exact B7 rfl ⟨h1_1, by omega, by omega, (fun a ha => Classical.byContradiction fun h => of_decide_eq_false h1_18 ⟨a, ha, h⟩), .inl ⟨h3_1, by omega, (I5 c.rq).1 h4_10, by omega⟩⟩
          | (refine A7 rfl fun hw => ?_
             obtain ⟨w1, w2, w3, w4, w5⟩ := hw
             rcases w5 with ⟨v1, v2, v3, v4⟩ | ⟨v1, v2, v3, v4, v5, v6⟩
             · first | omega | exact G9 h4_10 v3
             · rw [v1] at h3_1; cases h3_1)
        ·first
          | exact B7 rfl ⟨h1_1, by omega, by omega, (fun a ha => Classical.byContradiction fun h => of_decide_eq_false h1_18 ⟨a, ha, h⟩), .inl ⟨h3_1, by omega, (I5 c.rq).1 h4_10, by omega⟩⟩
          | (refine A7 rfl fun hw => ?_
             obtain ⟨w1, w2, w3, w4, w5⟩ := hw
             rcases w5 with ⟨v1, v2, v3, v4⟩ | ⟨v1, v2, v3, v4, v5, v6⟩
             · first | omega | exact G9 h4_10 v3
             · rw [v1] at h3_1; cases h3_1)
       ·first
         | exact B7 rfl ⟨h1_1, by omega, by omega, (fun a ha => Classical.byContradiction fun h => of_decide_eq_false h1_18 ⟨a, ha, h⟩), .inl ⟨h3_1, by omega, (I5 c.rq).1 h4_10, by omega⟩⟩
         | (refine A7 rfl fun hw => ?_
            obtain ⟨w1, w2, w3, w4, w5⟩ := hw
            rcases w5 with ⟨v1, v2, v3, v4⟩ | ⟨v1, v2, v3, v4, v5, v6⟩
            · first | omega | exact G9 h4_10 v3
            · rw [v1] at h3_1; cases h3_1)
      ·first
        | exact B7 rfl ⟨h1_1, by omega, by omega, (fun a ha => Classical.byContradiction fun h => of_decide_eq_false h1_18 ⟨a, ha, h⟩), .inl ⟨h3_1, by omega, (I5 c.rq).1 h4_10, by omega⟩⟩
        | (refine A7 rfl fun hw => ?_
           obtain ⟨w1, w2, w3, w4, w5⟩ := hw
           rcases w5 with ⟨v1, v2, v3, v4⟩ | ⟨v1, v2, v3, v4, v5, v6⟩
           · first | omega | exact G9 h4_10 v3
           · rw [v1] at h3_1; cases h3_1)
   ·refine A7 rfl fun hw => ?_; obtain ⟨w1, w2, w3, w4, w5⟩ := hw; first | contradiction | omega | (obtain ⟨a, h1, h2⟩ := of_decide_eq_true h1_18; exact absurd (w4 a h1) h2)
  ·refine A7 rfl fun hw => ?_; obtain ⟨w1, w2, w3, w4, w5⟩ := hw; first | contradiction | omega | (obtain ⟨a, h1, h2⟩ := of_decide_eq_true h1_18; exact absurd (w4 a h1) h2)
 ·refine A7 rfl fun hw => ?_; obtain ⟨w1, w2, w3, w4, w5⟩ := hw; first | contradiction | omega | (obtain ⟨a, h1, h2⟩ := of_decide_eq_true h1_18; exact absurd (w4 a h1) h2)
theorem s23 (n : Int) (c : Cl) (n1 n2 : Bool) (hL : c.acc.length ≤ 1048576) (hL2 : c.rps.length ≤ 1048576) : Pure En 129 [.one (.int .i64 n), .agg (c.T n1 n2)] [.one (.bool (decide (c.OK n)))] := by
 have hl : (c.rps.map Rp.T).length = c.rps.length := List.length_map ..
 have hl2 : (c.acc.map An.T).length = c.acc.length := List.length_map ..
 refine Pure.of_ev (st := []) Tryz.func129 rfl kb ?_
 refine B0 (s49 n) rfl j2 ?_ ?_ <;> intro h1_1
 ·refine A1 ?_
  refine B0 (O3 _ _ _) rfl j2 ?_ ?_ <;> intro h1_6
  ·refine A1 ?_
   refine B0 (O3 _ _ _) rfl j2 ?_ ?_ <;> intro h1_12
   ·refine A1 ?_
    refine br ?_ ?_ <;> intro h1_19
    ·refine A7 rfl fun hw => ?_
     obtain ⟨w1, w2, w3, w4, w5⟩ := hw
     rcases w5 with ⟨v1, v2, v3, v4⟩ | ⟨v1, v2, v3, v4, v5, v6⟩
     ·first | contradiction | omega
     ·first | contradiction | omega
    ·refine B3 (fun (i : Nat) => [.int .i64 n, .unk, .unk, .ptr 0 0 0, .unk, .int .i64 i]) (fun (i : Nat) => hp [(0, ⟨[(c.T n1 n2).map (T.toV false)], 10, 172⟩)]) (fun (i : Nat) => 1) (fun (i : Nat) => i ≤ c.acc.length ∧ ∀ j, j < i → (c.acc.getD j An0).OK) (fun (i : Nat) => c.acc.length - i) 0 ?_ ?_ ?_ ?_ ?_
     ·exact ⟨Nat.zero_le _, E6⟩
     ·(repeat first | exact LE.nil _ | refine LE.unk _ _ ?_ | refine LE.eq _ _ _ rfl ?_)
     ·(repeat first | exact A5 | (refine A4 ?_ ?_; exact H8))
     ·exact Nat.le_refl _
     intro i hI ih
     have hA := hI
     refine A6 (st := []) ?_
     refine A1 ?_
     refine br ?_ ?_ <;> intro h4_4
     ·refine A1 ?_
      (refine B9 (C5 (by first | rfl | assumption | first | exact A9 An.T An0 (by omega) | exact A9 Rp.T Rp0 (by omega)) rfl ?_))
      refine B0 (s51 (c.acc.getD i An0)) rfl j2 ?_ ?_ <;> intro h6_5
      ·refine C0 ?_
       exact C6 (ih (i + 1) ⟨by omega, C8 hI.2 h6_5⟩ (by omega)) (by (repeat first | exact LE.nil _ | refine LE.unk _ _ ?_ | refine LE.eq _ _ _ rfl ?_)) (by (repeat first | exact A5 | (refine A4 ?_ ?_; exact H8))) (Nat.le_refl _)
      ·refine A7 rfl fun hw => ?_; obtain ⟨w1, w2, w3, w4, w5⟩ := hw; exact h6_5 (w4 _ (getD_mem (by omega)))
     ·refine A1 ?_
      refine brB ?_ ?_ <;> intro h8_1
      ·(apply C3 (vs := [.int _ _, .int _ _, .int _ _, .int _ _, .str _]) j2; exact Q0; rfl; rfl; exact kb; rfl)
       refine B0 (s52 c.rq) rfl j2 ?_ ?_ <;> intro h10_2
       ·refine A1 ?_
        refine A1 ?_
        refine br ?_ ?_ <;> intro h10_10
        ·refine A7 rfl fun hw => ?_
         obtain ⟨w1, w2, w3, w4, w5⟩ := hw
         rcases w5 with ⟨v1, v2, v3, v4⟩ | ⟨v1, v2, v3, v4, v5, v6⟩
         ·rw [v1] at h8_1; cases h8_1
         ·obtain ⟨q1, q2, q3⟩ := v3
          first | contradiction | omega
        ·refine A1 ?_
         refine A1 ?_
         refine br ?_ ?_ <;> intro h10_18
         ·refine A7 rfl fun hw => ?_
          obtain ⟨w1, w2, w3, w4, w5⟩ := hw
          rcases w5 with ⟨v1, v2, v3, v4⟩ | ⟨v1, v2, v3, v4, v5, v6⟩
          ·rw [v1] at h8_1; cases h8_1
          ·obtain ⟨q1, q2, q3⟩ := v3
           first | contradiction | omega
         ·refine A1 ?_
          refine A1 ?_
          refine C0 ?_
          refine br ?_ ?_ <;> intro h10_27
          ·refine A7 rfl fun hw => ?_
           obtain ⟨w1, w2, w3, w4, w5⟩ := hw
           rcases w5 with ⟨v1, v2, v3, v4⟩ | ⟨v1, v2, v3, v4, v5, v6⟩
           ·rw [v1] at h8_1; cases h8_1
           ·obtain ⟨q1, q2, q3⟩ := v3
            first | contradiction | omega
          ·refine B3 (fun (a : Nat × Nat) => [.int .i64 n, .unk, .unk, .ptr 0 0 0, .unk, .unk, .int .i64 a.1]) (fun (a : Nat × Nat) => hp [(0, ⟨[(c.T n1 n2).map (T.toV false)], 10, 172⟩)]) (fun (a : Nat × Nat) => a.2) (fun (a : Nat × Nat) => 1 ≤ a.2 ∧ a.1 ≤ c.rps.length ∧ ∀ j, j < a.1 → (c.rps.getD j Rp0).OK n ∧ (c.rps.getD j Rp0).cl = c.id ∧ (c.rps.getD j Rp0).st = c.st) (fun (a : Nat × Nat) => c.rps.length - a.1) (0, 1) ?_ ?_ ?_ ?_ ?_
           ·exact ⟨Nat.le_refl _, Nat.zero_le _, E6⟩
           ·(repeat first | exact LE.nil _ | refine LE.unk _ _ ?_ | refine LE.eq _ _ _ rfl ?_)
           ·(repeat first | exact A5 | (refine A4 ?_ ?_; exact H8))
           ·exact Nat.le_refl _
           intro ⟨k, m⟩ hI ih
           dsimp only at hI ⊢
           refine A6 (st := []) ?_
           refine A1 ?_
           refine br ?_ ?_ <;> intro h13_4
           ·refine A1 ?_
            (refine B9 (C5 (by first | rfl | assumption | first | exact A9 An.T An0 (by omega) | exact A9 Rp.T Rp0 (by omega)) rfl ?_))
            (apply est (u := .agg [.int _ _, .int _ _, .int _ _, .int _ _, .int _ _, .int _ _, .int _ _, .str _]) j3; exact Q0; rfl; exact j4; exact kb; rfl)
            (apply C3 (vs := [.int _ _, .int _ _, .int _ _, .int _ _, .int _ _, .int _ _, .int _ _, .str _]) j2; exact Q0; rfl; rfl; exact kb; rfl)
            refine B0 (s53 n (c.rps.getD k Rp0)) rfl j2 ?_ ?_ <;> intro h16_2
            ·refine A1 ?_
             refine A1 ?_
             refine br ?_ ?_ <;> intro h16_9
             ·refine A7 rfl fun hw => ?_
              obtain ⟨w1, w2, w3, w4, w5⟩ := hw
              rcases w5 with ⟨v1, v2, v3, v4⟩ | ⟨v1, v2, v3, v4, v5, v6⟩
              ·rw [v1] at h8_1; cases h8_1
              ·obtain ⟨q1, q2, q3⟩ := v5 k (by omega)
               have q4 := (N7 h1_1 (c.rps.getD k Rp0)).2 q1
               first | contradiction | omega
             ·refine A1 ?_
              refine A1 ?_
              refine br ?_ ?_ <;> intro h16_16
              ·refine A7 rfl fun hw => ?_
               obtain ⟨w1, w2, w3, w4, w5⟩ := hw
               rcases w5 with ⟨v1, v2, v3, v4⟩ | ⟨v1, v2, v3, v4, v5, v6⟩
               ·rw [v1] at h8_1; cases h8_1
               ·obtain ⟨q1, q2, q3⟩ := v5 k (by omega)
                have q4 := (N7 h1_1 (c.rps.getD k Rp0)).2 q1
                first | contradiction | omega
              ·refine C0 ?_
               exact C6 (ih (k + 1, m + 1) ⟨by dsimp only; omega, by dsimp only; omega, C8 hI.2.2 ⟨(N7 h1_1 _).1 h16_2, Classical.not_not.1 h16_9, Classical.not_not.1 h16_16⟩⟩ (by dsimp only; omega)) (by (repeat first | exact LE.nil _ | refine LE.unk _ _ ?_ | refine LE.eq _ _ _ rfl ?_)) (by (repeat first | exact A5 | (refine A4 ?_ ?_; exact H8))) (Nat.le_refl _)
            ·refine A7 rfl fun hw => ?_
             obtain ⟨w1, w2, w3, w4, w5⟩ := hw
             rcases w5 with ⟨v1, v2, v3, v4⟩ | ⟨v1, v2, v3, v4, v5, v6⟩
             ·rw [v1] at h8_1; cases h8_1
             ·obtain ⟨q1, q2, q3⟩ := v5 k (by omega)
              have q4 := (N7 h1_1 (c.rps.getD k Rp0)).2 q1
              first | contradiction | omega
           ·refine A1 ?_
            refine A1 ?_
            refine A1 ?_
            refine C1 (s54 n c.id c.st n1 c.rps h1_1 (by omega)) rfl rfl rfl ?_
            refine brB ?_ ?_ <;> intro h18_10
            ·(apply est (u := .agg [.int _ _, .int _ _, .int _ _, .int _ _]) j3; exact Q0; rfl; exact j4; exact kb; rfl)
             first
              | exact B7 rfl ⟨h1_1, by omega, by omega, (K6 fun j hj => hA.2 j (by omega)), .inr ⟨h8_1, by omega, ⟨h10_2, by omega, by omega⟩, by omega, fun j hj => hI.2.2 j (by omega), h18_10⟩⟩
              | (refine A7 rfl fun hw => ?_
                 obtain ⟨w1, w2, w3, w4, w5⟩ := hw
                 rcases w5 with ⟨v1, v2, v3, v4⟩ | ⟨v1, v2, v3, v4, v5, v6⟩
                 · rw [v1] at h8_1; cases h8_1
                 · rw [v6] at h18_10; cases h18_10)
            ·(apply est (u := .agg [.int _ _, .int _ _, .int _ _, .int _ _]) j3; exact Q0; rfl; exact j4; exact kb; rfl)
             first
              | exact B7 rfl ⟨h1_1, by omega, by omega, (K6 fun j hj => hA.2 j (by omega)), .inr ⟨h8_1, by omega, ⟨h10_2, by omega, by omega⟩, by omega, fun j hj => hI.2.2 j (by omega), h18_10⟩⟩
              | (refine A7 rfl fun hw => ?_
                 obtain ⟨w1, w2, w3, w4, w5⟩ := hw
                 rcases w5 with ⟨v1, v2, v3, v4⟩ | ⟨v1, v2, v3, v4, v5, v6⟩
                 · rw [v1] at h8_1; cases h8_1
                 · rw [v6] at h18_10; cases h18_10)
       ·refine A7 rfl fun hw => ?_
        obtain ⟨w1, w2, w3, w4, w5⟩ := hw
        rcases w5 with ⟨v1, v2, v3, v4⟩ | ⟨v1, v2, v3, v4, v5, v6⟩
        ·rw [v1] at h8_1; cases h8_1
        ·obtain ⟨q1, q2, q3⟩ := v3
         first | contradiction | omega
      ·(apply C3 (vs := [.int _ _, .int _ _, .int _ _, .int _ _, .str _]) j2; exact Q0; rfl; rfl; exact kb; rfl)
       refine eSeql j3 (by kernel_rfl) (eqRq0 c.rq) ?_ ?_ <;> intro h9_3
       ·refine A1 ?_
        refine br ?_ ?_ <;> intro h9_8
        ·refine A1 ?_
         refine A1 ?_
         refine br ?_ ?_ <;> intro h9_16
         ·first
           | exact B7 rfl ⟨h1_1, by omega, by omega, (K6 fun j hj => hI.2 j (by omega)), .inl ⟨h8_1, by omega, (I5 c.rq).1 h9_3, by omega⟩⟩
           | (refine A7 rfl fun hw => ?_
              obtain ⟨w1, w2, w3, w4, w5⟩ := hw
              rcases w5 with ⟨v1, v2, v3, v4⟩ | ⟨v1, v2, v3, v4, v5, v6⟩
              · first | omega | exact G9 h9_3 v3
              · rw [v1] at h8_1; cases h8_1)
         ·first
           | exact B7 rfl ⟨h1_1, by omega, by omega, (K6 fun j hj => hI.2 j (by omega)), .inl ⟨h8_1, by omega, (I5 c.rq).1 h9_3, by omega⟩⟩
           | (refine A7 rfl fun hw => ?_
              obtain ⟨w1, w2, w3, w4, w5⟩ := hw
              rcases w5 with ⟨v1, v2, v3, v4⟩ | ⟨v1, v2, v3, v4, v5, v6⟩
              · first | omega | exact G9 h9_3 v3
              · rw [v1] at h8_1; cases h8_1)
        ·first
          | exact B7 rfl ⟨h1_1, by omega, by omega, (K6 fun j hj => hI.2 j (by omega)), .inl ⟨h8_1, by omega, (I5 c.rq).1 h9_3, by omega⟩⟩
          | (refine A7 rfl fun hw => ?_
             obtain ⟨w1, w2, w3, w4, w5⟩ := hw
             rcases w5 with ⟨v1, v2, v3, v4⟩ | ⟨v1, v2, v3, v4, v5, v6⟩
             · first | omega | exact G9 h9_3 v3
             · rw [v1] at h8_1; cases h8_1)
       ·first
         | exact B7 rfl ⟨h1_1, by omega, by omega, (K6 fun j hj => hI.2 j (by omega)), .inl ⟨h8_1, by omega, (I5 c.rq).1 h9_3, by omega⟩⟩
         | (refine A7 rfl fun hw => ?_
            obtain ⟨w1, w2, w3, w4, w5⟩ := hw
            rcases w5 with ⟨v1, v2, v3, v4⟩ | ⟨v1, v2, v3, v4, v5, v6⟩
            · first | omega | exact G9 h9_3 v3
            · rw [v1] at h8_1; cases h8_1)
   ·refine A7 rfl fun hw => ?_
    obtain ⟨w1, w2, w3, w4, w5⟩ := hw
    rcases w5 with ⟨v1, v2, v3, v4⟩ | ⟨v1, v2, v3, v4, v5, v6⟩
    ·first | contradiction | omega
    ·first | contradiction | omega
  ·refine A7 rfl fun hw => ?_
   obtain ⟨w1, w2, w3, w4, w5⟩ := hw
   rcases w5 with ⟨v1, v2, v3, v4⟩ | ⟨v1, v2, v3, v4, v5, v6⟩
   ·first | contradiction | omega
   ·first | contradiction | omega
 ·refine A7 rfl fun hw => ?_
  obtain ⟨w1, w2, w3, w4, w5⟩ := hw
  rcases w5 with ⟨v1, v2, v3, v4⟩ | ⟨v1, v2, v3, v4, v5, v6⟩
  ·first | contradiction | omega
  ·first | contradiction | omega
end Go.Proofs.YteifdelnahccjaaGreatDoor
