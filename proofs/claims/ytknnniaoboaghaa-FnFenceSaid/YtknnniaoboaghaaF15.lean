import Derived.Test.YtknnniaoboaghaaF14
namespace Go.Proofs.Ytknnniaoboaghaa
open Go.V
set_option linter.unusedVariables false
set_option linter.unusedSimpArgs false
set_option maxRecDepth 20000
set_option maxHeartbeats 4000000
structure Gr where
 nm : ByteArray
 hd : Int
 tk : Int
 ex : Int
def Gr.T (a : Gr) : List V.T := [.str a.nm, .int .i64 a.hd, .int .i64 a.tk, .int .i64 a.ex]
def Gr.V (a : Gr) : List V := [.str a.nm, .int .i64 a.hd, .int .i64 a.tk, .int .i64 a.ex]
def Gr0 : Gr := ⟨⟨#[]⟩, 0, 0, 0⟩
def gOf (l : Lk) : Gr := ⟨l.nm, l.hd, l.tk, l.ex⟩
def grL (k : Int) (L : List Lk) : List Gr := (L.filter fun l => decide (l.tk = k ∧ l.hd ≠ -1)).map gOf
def gTk (a : Int) (L : List Lk) : Nat → List Gr
 | 0 => []
 | n + 1 => gTk a L n ++ grL (a + n) L
noncomputable def gA (L : List Rq) (Tm : List Int) : Nat → List Gr
 | 0 => []
 | i + 1 => gA L Tm i ++ gTk (runT L Tm i).1.nx (runT L Tm (i + 1)).1.lk ((runT L Tm (i + 1)).1.nx - (runT L Tm i).1.nx).toNat
theorem take_s {L : List Lk} {i : Nat} (h : i < L.length) : L.take (i + 1) = L.take i ++ [L.getD i Lk0] := by rw [List.take_add_one]; simp [h]
theorem grL_y {k : Int} {L : List Lk} {i : Nat} (h : i < L.length) (c : (L.getD i Lk0).tk = k ∧ (L.getD i Lk0).hd ≠ -1) : grL k (L.take (i + 1)) = grL k (L.take i) ++ [gOf (L.getD i Lk0)] := by
 unfold grL
 rw [take_s h, List.filter_append, List.map_append]
 congr 1
 rw [List.filter_cons_of_pos (by exact decide_eq_true c)]; rfl
theorem grL_n {k : Int} {L : List Lk} {i : Nat} (h : i < L.length) (c : ¬ ((L.getD i Lk0).tk = k ∧ (L.getD i Lk0).hd ≠ -1)) : grL k (L.take (i + 1)) = grL k (L.take i) := by
 unfold grL
 rw [take_s h, List.filter_append, List.map_append, List.filter_cons_of_neg (by rw [decide_eq_true_iff]; exact c)]
 simp
theorem grL_0 {k : Int} {L : List Lk} : grL k (L.take 0) = [] := rfl
theorem grL_all {k : Int} {L : List Lk} {i : Nat} (h : L.length ≤ i) : grL k (L.take i) = grL k L := by rw [List.take_of_length_le h]
theorem grL_len (k : Int) (L : List Lk) : (grL k L).length ≤ L.length := by
 unfold grL; rw [List.length_map]; exact List.length_filter_le ..
theorem gTk_len (a : Int) (L : List Lk) : ∀ n, (gTk a L n).length ≤ n * L.length
 | 0 => Nat.zero_le _
 | n + 1 => by
  have h1 := gTk_len a L n
  have h2 := grL_len (a + n) L
  show (gTk a L n ++ _).length ≤ _
  rw [List.length_append, Nat.succ_mul]; omega
theorem gA_len {L : List Rq} {Tm : List Int} (h : Reqs L Tm) : ∀ i, i ≤ L.length → (gA L Tm i).length ≤ i * 20
 | 0, _ => Nat.zero_le _
 | i + 1, hi => by
  have h1 := gA_len h i (by omega)
  obtain ⟨r1, r2, r3, r4⟩ := J2 h i (by omega)
  obtain ⟨s1, s2, s3, s4⟩ := J2 h (i + 1) hi
  have hrok := (h.1 _ (G3 (L := L) (i := i) (d := Rq0) (by omega))).1
  have hton : 0 ≤ Tm.getD i 0 ∧ Tm.getD i 0 ≤ 1000000000 := by have := h.2.1 _ (G3 (L := Tm) (i := i) (d := 0) (by have := h.2.2.2; omega)); omega
  have hn : (runT L Tm (i + 1)).1.nx ≤ (runT L Tm i).1.nx + 5 := (BJ r1 hrok hton (by have := h.2.2.1; omega)).nx.2
  have h2 := gTk_len (runT L Tm i).1.nx (runT L Tm (i + 1)).1.lk ((runT L Tm (i + 1)).1.nx - (runT L Tm i).1.nx).toNat
  have h3 := s1.2.2.1
  have h4 : ((runT L Tm (i + 1)).1.nx - (runT L Tm i).1.nx).toNat * (runT L Tm (i + 1)).1.lk.length ≤ 5 * 4 := Nat.mul_le_mul (by omega) h3
  show (gA L Tm i ++ _).length ≤ _
  rw [List.length_append]; omega
def Dt (L : List Lk) : Prop := ∀ i j, i < L.length → j < L.length → i ≠ j → (L.getD i Lk0).tk ≠ (L.getD j Lk0).tk
theorem Dt.set {L : List Lk} (h : Dt L) {k : Nat} {l : Lk} (hl : k < L.length) (c : l.tk = (L.getD k Lk0).tk ∨ ∀ i, i < L.length → (L.getD i Lk0).tk < l.tk) : Dt (L.set k l) := by
 intro i j hi hj hij
 rw [List.length_set] at hi hj
 have e : ∀ i, i < L.length → (L.set k l).getD i Lk0 = if i = k then l else L.getD i Lk0 := fun i hi => by
  simp only [List.getD_eq_getElem?_getD, List.getElem?_set]
  by_cases q : k = i
  ·subst q; simp [hl]
  ·rw [if_neg q, if_neg (Ne.symm q)]
 rw [e i hi, e j hj]
 by_cases h1 : i = k
 ·subst h1
  rw [if_pos rfl, if_neg (Ne.symm hij)]
  rcases c with c | c
  ·rw [c]; exact h i j hi hj hij
  ·have := c j hj; omega
 ·rw [if_neg h1]
  by_cases h2 : j = k
  ·subst h2
   rw [if_pos rfl]
   rcases c with c | c
   ·rw [c]; exact h i j hi hj hij
   ·have := c i hi; omega
  ·rw [if_neg h2]; exact h i j hi hj hij
theorem Dt.ins {L : List Lk} (h : Dt L) {k : Nat} {l : Lk} (hk : k ≤ L.length) (c : ∀ i, i < L.length → (L.getD i Lk0).tk < l.tk) : Dt (insL L k l) := by
 intro i j hi hj hij
 rw [I5 hk] at hi hj
 rw [O9 hk, O9 hk]
 by_cases h1 : i < k
 ·rw [if_pos h1]
  by_cases h2 : j < k
  ·rw [if_pos h2]; exact h i j (by omega) (by omega) hij
  ·rw [if_neg h2]
   by_cases h3 : j = k
   ·rw [if_pos h3]; have := c i (by omega); omega
   ·rw [if_neg h3]; exact h i (j - 1) (by omega) (by omega) (by omega)
 ·rw [if_neg h1]
  by_cases h4 : i = k
  ·rw [if_pos h4]
   by_cases h2 : j < k
   ·rw [if_pos h2]; have := c j (by omega); omega
   ·rw [if_neg h2, if_neg (by omega)]; have := c (j - 1) (by omega); omega
  ·rw [if_neg h4]
   by_cases h2 : j < k
   ·rw [if_pos h2]; exact h (i - 1) j (by omega) (by omega) (by omega)
   ·rw [if_neg h2]
    by_cases h3 : j = k
    ·rw [if_pos h3]; have := c (i - 1) (by omega); omega
    ·rw [if_neg h3]; exact h (i - 1) (j - 1) (by omega) (by omega) (by omega)
theorem exF_tk {tm nx : Int} {l : Lk} : (exF tm nx l).tk = l.tk ∨ ((exF tm nx l).tk = nx ∧ exN tm nx l = nx + 1) := by
 unfold exF exN
 by_cases h : gone tm l
 ·rw [if_pos h]
  cases hw : l.ws with
  | nil => exact .inl rfl
  | cons w r => exact .inr ⟨rfl, by rw [if_pos ⟨h, by simp⟩]⟩
 ·rw [if_neg h]; exact .inl rfl
theorem BC {tm nx : Int} {L : List Lk} {i : Nat} : ∀ {j : Nat}, i ≤ j → j ≤ L.length → nxL tm nx (L.take i) ≤ nxL tm nx (L.take j)
 | 0, h, _ => by have : i = 0 := Nat.le_zero.1 h; subst this; exact Int.le_refl _
 | j + 1, h, hj => by
  by_cases e : i = j + 1
  ·subst e; exact Int.le_refl _
  ·have h1 := BC (tm := tm) (nx := nx) (L := L) (i := i) (j := j) (by omega) (by omega)
   rw [I1 (by omega)]
   have : ∀ n, n ≤ exN tm n (L.getD j Lk0) := fun n => by unfold exN; split <;> omega
   exact Int.le_trans h1 (this _)
theorem Dt.ex {t : Tb} {now : Int} (h : Dt t.lk) (ht : t.OK) : Dt (exT t now).lk := by
 intro i j hi hj hij
 show ((exL _ _ _).getD i Lk0).tk ≠ ((exL _ _ _).getD j Lk0).tk
 have hi : i < t.lk.length := by have hi : i < (exL (max t.tm now) t.nx t.lk).length := hi; rwa [N3] at hi
 have hj : j < t.lk.length := by have hj : j < (exL (max t.tm now) t.nx t.lk).length := hj; rwa [N3] at hj
 rw [L2 hi, L2 hj]
 have bi := (ht.2.2.2.2.1 i hi).1.2.1.2
 have bj := (ht.2.2.2.2.1 j hj).1.2.1.2
 have ni := (BI (tm := max t.tm now) (nx := t.nx) (L := t.lk) i).1
 have nj := (BI (tm := max t.tm now) (nx := t.nx) (L := t.lk) j).1
 rcases exF_tk (tm := max t.tm now) (nx := nxL (max t.tm now) t.nx (t.lk.take i)) (l := t.lk.getD i Lk0) with a | ⟨a, a2⟩ <;> rcases exF_tk (tm := max t.tm now) (nx := nxL (max t.tm now) t.nx (t.lk.take j)) (l := t.lk.getD j Lk0) with b | ⟨b, b2⟩ <;> rw [a, b]
 ·exact h i j hi hj hij
 ·omega
 ·omega
 ·rcases Nat.lt_or_ge i j with q | q
  ·have := BC (tm := max t.tm now) (nx := t.nx) (L := t.lk) (i := i + 1) (j := j) (by omega) (by omega)
   rw [I1 hi, a2] at this; omega
  ·have := BC (tm := max t.tm now) (nx := t.nx) (L := t.lk) (i := j + 1) (j := i) (by omega) (by omega)
   rw [I1 hj, b2] at this; omega
theorem frL_tk2 {tm nx : Int} {l : Lk} : (frL tm nx l).tk = l.tk ∨ (frL tm nx l).tk = nx := by
 unfold frL
 split
 ·exact .inl rfl
 ·exact .inr rfl
theorem doT_Dt {t : Tb} {r : Rq} (h : LR t) (hd : Dt t.lk) : Dt (doT t r).1.lk := by
 have hb : ∀ i, i < t.lk.length → (t.lk.getD i Lk0).tk < t.nx := fun i hi => by have := (h.ok i hi).2.1.2; omega
 unfold doT
 by_cases k1 : r.kd = 1
 ·rw [if_pos k1]
  unfold acqT
  by_cases hh : hit r.nm t.lk
  ·rw [if_pos hh]
   unfold acqL
   split
   ·exact hd
   ·split
    ·exact hd.set hh.1 (.inr hb)
    ·split
     ·exact hd
     ·exact hd.set hh.1 (.inl rfl)
  ·rw [if_neg hh]
   split
   ·exact hd
   ·exact hd.ins (W6 _ _) hb
 ·rw [if_neg k1]
  by_cases hh : hit r.nm t.lk
  ·rw [if_pos hh]
   unfold doL
   split
   ·exact hd.set hh.1 (.inl rfl)
   ·split
    ·exact hd
    ·split
     ·exact hd
     ·split
      ·exact hd.set hh.1 (.inl rfl)
      ·refine hd.set hh.1 ?_
       rcases frL_tk2 (tm := t.tm) (nx := t.nx) (l := t.lk.getD (pos r.nm t.lk) Lk0) with e | e
       ·exact .inl e
       ·exact .inr fun i hi => by rw [e]; exact hb i hi
  ·rw [if_neg hh]; exact hd
theorem rqT_Dt {t : Tb} {now : Int} {r : Rq} (ht : t.OK) (hn : 0 ≤ now ∧ now ≤ 1000000000) (hd : Dt t.lk) : Dt (rqT t now r).1.lk := by
 have hL := LR.ex ht hn
 have hx := hd.ex (now := now) ht
 unfold rqT reqT
 split
 ·exact hx
 ·split
  ·exact hx
  ·split
   ·exact hx
   ·exact doT_Dt hL hx
open Go.V
set_option linter.unusedVariables false
set_option linter.unusedSimpArgs false
set_option maxRecDepth 20000
set_option maxHeartbeats 4000000
def Ris (G : List Gr) : Prop := G.Pairwise fun a b => a.tk < b.tk
theorem grL_tk {k : Int} {L : List Lk} : ∀ x ∈ grL k L, x.tk = k := fun x hx => by
 unfold grL at hx
 obtain ⟨l, hl, rfl⟩ := List.mem_map.1 hx
 exact (of_decide_eq_true (List.mem_filter.1 hl).2).1
theorem grL_ris {k : Int} {L : List Lk} (h : Dt L) : Ris (grL k L) := by
 have h1 : L.Pairwise fun a b => a.tk ≠ b.tk := by
  rw [List.pairwise_iff_getElem]
  intro i j hi hj hij
  have := h i j hi hj (by omega)
  rwa [List.getD_eq_getElem?_getD, List.getD_eq_getElem?_getD, List.getElem?_eq_getElem hi, List.getElem?_eq_getElem hj] at this
 have h2 : (grL k L).Pairwise fun a b => a.tk ≠ b.tk := List.pairwise_map.2 (h1.filter _)
 exact h2.imp_of_mem fun ha hb hab => absurd ((grL_tk _ ha).trans (grL_tk _ hb).symm) hab
theorem gTk_ris {a : Int} {L : List Lk} (h : Dt L) : ∀ n, Ris (gTk a L n) ∧ ∀ x ∈ gTk a L n, a ≤ x.tk ∧ x.tk < a + n
 | 0 => ⟨.nil, fun x hx => absurd hx List.not_mem_nil⟩
 | n + 1 => by
  obtain ⟨h1, h2⟩ := gTk_ris h n
  refine ⟨List.pairwise_append.2 ⟨h1, grL_ris h, fun x hx y hy => ?_⟩, fun x hx => ?_⟩
  ·rw [grL_tk y hy]; exact (h2 x hx).2
  ·rcases List.mem_append.1 hx with q | q
   ·have := h2 x q; omega
   ·rw [grL_tk x q]; omega
theorem runT_Dt {L : List Rq} {Tm : List Int} (h : Reqs L Tm) : ∀ i, i ≤ L.length → Dt (runT L Tm i).1.lk
 | 0, _ => fun i j hi => absurd hi (Nat.not_lt_zero _)
 | i + 1, hi => by
  have hton : 0 ≤ Tm.getD i 0 ∧ Tm.getD i 0 ≤ 1000000000 := by have := h.2.1 _ (G3 (L := Tm) (i := i) (d := 0) (by have := h.2.2.2; omega)); omega
  exact rqT_Dt (J2 h i (by omega)).1 hton (runT_Dt h i (by omega))
theorem gA_ris {L : List Rq} {Tm : List Int} (h : Reqs L Tm) : ∀ i, i ≤ L.length → Ris (gA L Tm i) ∧ ∀ x ∈ gA L Tm i, x.tk < (runT L Tm i).1.nx
 | 0, _ => ⟨.nil, fun x hx => absurd hx List.not_mem_nil⟩
 | i + 1, hi => by
  obtain ⟨h1, h2⟩ := gA_ris h i (by omega)
  obtain ⟨r1, r2, r3, r4⟩ := J2 h i (by omega)
  have hrok := (h.1 _ (G3 (L := L) (i := i) (d := Rq0) (by omega))).1
  have hton : 0 ≤ Tm.getD i 0 ∧ Tm.getD i 0 ≤ 1000000000 := by have := h.2.1 _ (G3 (L := Tm) (i := i) (d := 0) (by have := h.2.2.2; omega)); omega
  have hn : (runT L Tm i).1.nx ≤ (runT L Tm (i + 1)).1.nx := (BJ r1 hrok hton (by have := h.2.2.1; omega)).nx.1
  obtain ⟨h3, h4⟩ := gTk_ris (a := (runT L Tm i).1.nx) (runT_Dt h (i + 1) hi) ((runT L Tm (i + 1)).1.nx - (runT L Tm i).1.nx).toNat
  refine ⟨List.pairwise_append.2 ⟨h1, h3, fun x hx y hy => ?_⟩, fun x hx => ?_⟩
  ·have := h2 x hx; have := (h4 y hy).1; omega
  ·rcases List.mem_append.1 hx with q | q
   ·have := h2 x q; omega
   ·have := (h4 x q).2; omega
theorem gA_lt {L : List Rq} {Tm : List Int} (h : Reqs L Tm) {i : Nat} (h0 : 0 < i) (hi : i < (gA L Tm L.length).length) : ((gA L Tm L.length).getD (i - 1) Gr0).tk < ((gA L Tm L.length).getD i Gr0).tk := by
 have q := List.pairwise_iff_getElem.1 (gA_ris h L.length (Nat.le_refl _)).1 (i - 1) i (by omega) hi (by omega)
 rwa [List.getD_eq_getElem?_getD, List.getD_eq_getElem?_getD, List.getElem?_eq_getElem hi, List.getElem?_eq_getElem (by omega)]
theorem eqGr (a : Gr) : eqV En.P 10000 55 (.agg a.V) (.agg a.V) = some true := by
 have h : eqV En.P 10000 55 (.agg a.V) (.agg a.V) = some ((a.nm.toList == a.nm.toList) && ((a.hd == a.hd) && ((a.tk == a.tk) && ((a.ex == a.ex) && true)))) := by kernel_rfl
 rw [h]; simp
theorem s25 (L : List Gr) (b1 b2 : Bool) (hL : L.length ≤ 1000) : Pure En 25 [.one (.sl b1 (L.map Gr.T)), .one (.sl b2 (L.map Gr.T))] [.one (.bool true)] := by
 have hl : (L.map Gr.T).length = L.length := List.length_map ..
 refine Pure.of_wp Try.func25 rfl kb ?_
 refine A2 (A0 (C6 j5 (A3 (A1 (A2 (A2 (A0 (I8 j5 (H0 rfl rfl rfl j3 (I8 j5 (H0 rfl rfl rfl j3 ?_)))))))))))
 refine rne j6 (fun h => absurd h (by omega)) ?_
 intro h1_4
 refine A3 (A1 (wF rfl (B0 (A1 (A2 (A2 (A0 (D0 j5 (A3 (A1 (B3 (F0 ?_))))))))))))
 refine AJ (fun (i : Nat) => [.sl false b1 (L.map Gr.T), .sl false b2 (L.map Gr.T), .unk, .unk, .unk, .int .i64 i]) (fun (i : Nat) => i ≤ L.length) (fun (i : Nat) => L.length - i) 0 ?_ ?_ ?_
 ·exact Nat.zero_le _
 ·(repeat first | exact LE.nil _ | refine LE.unk _ _ ?_ | refine LE.eq _ _ _ rfl ?_)
 intro i hI ih
 refine E8 (A2 (A2 (A0 (B6 j5 (I8 j5 (H0 rfl rfl rfl j3 ?_))))))
 refine I6 j6 ?_ ?_ <;> intro h4_3
 ·refine A3 (A1 (wT rfl (B0 (A1 (A2 (B3 (A2 (C2 [0, 0, 3, 7, 0, 0, 48, 112, 255] rfl (by decide +kernel) ?_))))))))
  refine BL j5 (I0 j5 ?_)
  (apply K6 j4; exact Q4; (first | rfl | assumption | (exact D8 Gr.T Gr0 (by omega))); exact j4)
  refine dlir (vs := [.str _, .int _ _, .int _ _, .int _ _]) j3 kb j4 (BL j5 (I0 j5 ?_))
  (apply K6 j4; exact Q4; (first | rfl | assumption | (exact D8 Gr.T Gr0 (by omega))); exact j4)
  refine dlir (vs := [.str _, .int _ _, .int _ _, .int _ _]) j3 kb j4 ?_
  refine dSneq j3 (by kernel_rfl) (eqGr _) j3 (fun h => absurd h (by decide)) ?_
  intro h6_8
  refine B1 9 [0, 0, 0, 0, 0, 0, 0, 0, 0] [] j2 (by decide +kernel) trivial ?_
  refine A1 (wF rfl (B0 (B7 (A1 (A0 (B6 j5 (C3 j3 ?_ ?_ j3 ?_)))))))
  ·exact Q4
  ·exact Q4
  refine D0 j5 (A3 (D1 ?_))
  exact wlN (ih (i + 1) (by omega) (by omega)) (by (repeat first | exact LE.nil _ | refine LE.unk _ _ ?_ | refine LE.eq _ _ _ rfl ?_))
 ·refine A3 (A1 (wF rfl (E5 (E6 (D7 (C8 (A1 (A2 (A0 (C6 j5 (A3 (A1 ?_))))))))))))
  refine A9 ?_
  exact fin rfl rfl
open Go.V
set_option linter.unusedVariables false
set_option linter.unusedSimpArgs false
set_option maxRecDepth 20000
set_option maxHeartbeats 4000000
noncomputable def gB (L : List Rq) (Tm : List Int) (i n : Nat) : List Gr := gA L Tm i ++ gTk (runT L Tm i).1.nx (runT L Tm (i + 1)).1.lk n
noncomputable def gC (L : List Rq) (Tm : List Int) (i n k : Nat) : List Gr := gB L Tm i n ++ grL ((runT L Tm i).1.nx + n) ((runT L Tm (i + 1)).1.lk.take k)
theorem V9 {L : List Rq} {Tm : List Int} {i n k : Nat} (h : k < (runT L Tm (i + 1)).1.lk.length) (c : ((runT L Tm (i + 1)).1.lk.getD k Lk0).tk = (runT L Tm i).1.nx + n ∧ ((runT L Tm (i + 1)).1.lk.getD k Lk0).hd ≠ -1) : gC L Tm i n (k + 1) = gC L Tm i n k ++ [gOf ((runT L Tm (i + 1)).1.lk.getD k Lk0)] := by
 unfold gC; rw [grL_y h c, ← List.append_assoc]
theorem gC_n {L : List Rq} {Tm : List Int} {i n k : Nat} (h : k < (runT L Tm (i + 1)).1.lk.length) (c : ¬ (((runT L Tm (i + 1)).1.lk.getD k Lk0).tk = (runT L Tm i).1.nx + n ∧ ((runT L Tm (i + 1)).1.lk.getD k Lk0).hd ≠ -1)) : gC L Tm i n (k + 1) = gC L Tm i n k := by
 unfold gC; rw [grL_n h c]
theorem gC_0 {L : List Rq} {Tm : List Int} {i n : Nat} : gC L Tm i n 0 = gB L Tm i n := by unfold gC; rw [grL_0, List.append_nil]
theorem gC_end {L : List Rq} {Tm : List Int} {i n k : Nat} (h : (runT L Tm (i + 1)).1.lk.length ≤ k) : gC L Tm i n k = gB L Tm i (n + 1) := by
 unfold gC gB; rw [grL_all h, List.append_assoc]; rfl
theorem gB_0 {L : List Rq} {Tm : List Int} {i : Nat} : gB L Tm i 0 = gA L Tm i := List.append_nil _
theorem gC_len {L : List Rq} {Tm : List Int} (h : Reqs L Tm) {i n k : Nat} (hi : i < L.length) (hn : n ≤ 5) : (gC L Tm i n k).length ≤ 700 := by
 have h1 := gA_len h i (by omega)
 have h2 := gTk_len (runT L Tm i).1.nx (runT L Tm (i + 1)).1.lk n
 have h3 := grL_len ((runT L Tm i).1.nx + n) ((runT L Tm (i + 1)).1.lk.take k)
 have h4 := (J2 h (i + 1) hi).1.2.2.1
 have h5 := h.2.2.1
 have h6 : n * (runT L Tm (i + 1)).1.lk.length ≤ 5 * 4 := Nat.mul_le_mul hn h4
 unfold gC gB
 rw [List.length_append, List.length_append]
 rw [List.length_take] at h3
 omega
def OutOK (G : List Gr) (o : V) (bO m : Nat) (g : Heap) (F : Nat → Prop) : Prop := (G = [] ∧ o = .nsl) ∨ (o = .view bO 0 G.length ∧ g bO = some ⟨G.map Gr.V, 4, 55⟩ ∧ (1 ≤ bO ∧ bO < m) ∧ ¬ F bO)
theorem OutOK.keep {G : List Gr} {o : V} {bO m m2 : Nat} {g g2 : Heap} {F F2 : Nat → Prop} (h : OutOK G o bO m g F) (hm : m ≤ m2) (e : ∀ a, 1 ≤ a → a < m → ¬ F a → g2 a = g a) (hF : ∀ a, F2 a → F a ∨ m ≤ a) : OutOK G o bO m2 g2 F2 :=
 h.imp (fun x => x) fun ⟨h1, h2, h3, h4⟩ => ⟨h1, (e bO h3.1 h3.2 h4).trans h2, ⟨h3.1, by omega⟩, fun q => (hF bO q).elim h4 (fun q => by omega)⟩
theorem rowsGr (L : List Gr) : rowsV (L.map Gr.T) = L.map Gr.V := by unfold rowsV; rw [List.map_map]; rfl
theorem OutOK.snap {G : List Gr} {o : V} {bO m : Nat} {g : Heap} {F : Nat → Prop} {r : Bool} (h : OutOK G o bO m g F) : Snap g [bO] r o (.sl false (G.map Gr.T)) := by
 rcases h with ⟨rfl, rfl⟩ | ⟨rfl, h2, _⟩
 ·exact .nslW
 ·exact .weak _ _ (H7 (G.map Gr.T) (List.mem_singleton.2 rfl) h2 (rowsGr _).symm (List.length_map ..).symm)
structure GS where
 i : Nat
 o : V
 bO : Nat
 m : Nat
 Sl : V
 Ss : V
 W : Nat → V
 g : Heap
structure GI (L : List Rq) (Tm : List Int) (a : GS) : Prop where
 il : a.i ≤ L.length
 T : TabM (runT L Tm a.i).1 0 a.Sl a.Ss a.W a.g a.m
 out : OutOK (gA L Tm a.i) a.o a.bO a.m a.g (OwnT 0 a.Sl a.Ss a.W (runT L Tm a.i).1.lk.length)
theorem T1_M0 {g : Heap} (h : g 0 = some ⟨[[.int .i64 0, .int .i64 1, .nsl, .nsl]], 4, 35⟩) {m : Nat} (hm : 0 < m) : TabM T1 0 .nsl .nsl (fun _ => .nsl) g m :=
 ⟨hm, h, .inl ⟨rfl, rfl⟩, .inl ⟨rfl, rfl⟩, fun i hi => absurd hi (Nat.not_lt_zero _), fun a h => (by cases h), fun a h => (by cases h), fun i a hi => absurd hi (Nat.not_lt_zero _)⟩
structure GM where
 n : Nat
 o : V
 bO : Nat
 m : Nat
 g : Heap
theorem s66 (L : List Rq) (Tm : List Int) (b1 b2 : Bool) (hR : Reqs L Tm) : Pure En 66 [.one (.sl b1 (L.map Rq.T)), .one (.sl b2 (Tm.map iT))] [.one (.sl false ((gA L Tm L.length).map Gr.T))] := by
 have hl1 : (L.map Rq.T).length = L.length := List.length_map ..
 have hl2 : (Tm.map iT).length = Tm.length := List.length_map ..
 have hl3 := hR.2.2.1
 have hl4 := hR.2.2.2
 refine Pure.of_wp Try.func66 rfl kb ?_
 refine A2 (A0 (AA j5 (A3 (A1 (A2 (A0 (AB s76 rfl j5 (H3 j6 ?_))))))))
 (apply D4 (u := .agg [.int _ _, .int _ _, _, _]) j3; exact Q0; exact C7; rfl; rfl; rfl; (first | rfl | (show ((W2 k).cell && true) = true; rw [kwc]; rfl)); exact kb; rfl; exact j2)
 refine A3 (A1 (A2 (A0 (AA j5 (A3 (A1 (A2 (A2 (A0 (I8 j5 (H0 rfl rfl rfl j3 (B6 j5 ?_))))))))))))
 refine A3 (A1 (B3 (F0 ?_)))
 refine wlG fun g0 hg0 => ?_
 refine E9 (fun (a : GS) => [.unk, .sl false b2 (Tm.map iT), .unk, .unk, .unk, .ptr 0 0 0, a.o, .unk, .unk, .unk, .unk, .unk, .unk, .unk, .sl false b1 (L.map Rq.T), .int .i64 (L.map Rq.T).length, .int .i64 a.i]) (fun (a : GS) => a.g) (fun (a : GS) => a.m) (fun (a : GS) => GI L Tm a) (fun (a : GS) => L.length - a.i) ⟨0, .nsl, 0, 1, .nsl, .nsl, fun _ => .nsl, g0⟩ ?_ ?_ ?_ ?_ ?_
 ·refine ⟨Nat.zero_le _, T1_M0 ?_ (by dsimp only; omega), .inl ⟨rfl, rfl⟩⟩
  dsimp only; rw [hg0]; exact Q0
 ·(repeat first | exact LE.nil _ | refine LE.unk _ _ ?_ | refine LE.eq _ _ _ rfl ?_)
 ·exact LessH.refl _
 ·exact Nat.le_refl _
 intro ⟨i, out, bO, m, Sl, Ss, W, g⟩ hI ih
 have ih0 := ih
 have q0 := hI.il
 have qT := hI.T
 have qO := hI.out
 dsimp only at q0 qT qO ⊢
 have q5 := qT.kid
 have q6 := qT.idn
 obtain ⟨r1, r2, r3, r4⟩ := J2 hR i q0
 have hnb := r1.2.1
 have hro : i < L.length → (L.getD i Rq0).OK := fun h => (hR.1 _ (G3 h)).1
 have hto : i < L.length → 0 ≤ Tm.getD i 0 ∧ Tm.getD i 0 ≤ 1000000000 := fun h => by have := hR.2.1 _ (G3 (L := Tm) (i := i) (d := 0) (by have := hR.2.2.2; omega)); omega
 refine E8 (A2 (A0 ?_))
 refine I6 j6 ?_ ?_ <;> intro h4_0
 ·refine A3 (A1 (A2 (wT rfl (B0 (A1 (A2 (B3 (A2 (A0 (B6 j5 ?_))))))))))
  (apply N0 j4; exact H1; exact Q36; exact j4)
  refine T7 (vs := [.int _ _, .int _ _, .int _ _, .int _ _, .str _]) j3 kb j4 (H3 j6 (D0 j5 ?_))
  (apply D4 (u := .agg [.int _ _, .int _ _, .int _ _, .int _ _, .str _]) j3; exact Q0; exact C7; rfl; rfl; rfl; (first | rfl | (show ((W2 k).cell && true) = true; rw [kwc]; rfl)); exact kb; rfl; exact j2)
  refine A3 (A1 (A2 (A0 (C1 (off := 1) (s := 1) (r := false) j3 kz j3 ?_))))
  (apply C5 (v := .int _ _) j2; exact Q0; exact C7; exact j5)
  refine D0 j5 (A3 (A1 (A2 ?_)))
  refine Y1 fun G1 hG1 => ?_
  have bq := Bq.of r1 (hro (by omega)) (hto (by omega)) (by have := hR.2.2.1; omega)
  have T1 : TabM (runT L Tm i).1 0 Sl Ss W G1 (m + 1) := qT.ext (by omega) (fun a ha => by rw [hG1]; (simp (disch := (first | omega | assumption)) only [↓appC, ↓updN, ↓updS, ↓app0]))
  have O1 := qO.keep (m2 := m + 1) (g2 := G1) (F2 := OwnT 0 Sl Ss W (runT L Tm i).1.lk.length) (by omega) (fun a h1 h2 _ => by rw [hG1]; (simp (disch := (first | omega | assumption)) only [↓appC, ↓updN, ↓updS, ↓app0])) (fun a o => .inl o)
  have gr1 : G1 m = some ⟨[[.int .i64 (L.getD i Rq0).cl, .int .i64 (L.getD i Rq0).st, .int .i64 (L.getD i Rq0).kd, .int .i64 (L.getD i Rq0).le, .str (L.getD i Rq0).nm]], 5, 64⟩ := by rw [hG1]; exact Q0
  refine C2 [0, 0, 3, 7, 0, 31] rfl (by decide +kernel) ?_
  refine BL j5 (I0 j5 ?_)
  (apply K6 j4; exact H1; exact Q36; exact j4)
  refine N1 (v := .int _ _) j8 ?_
  (apply L8 (vs := [.int _ _, .int _ _, .int _ _, .int _ _, .str _]) j2; exact Q0; exact C7; rfl; exact kb; exact j4)
  refine dopM (o71 (runT L Tm i).1 (Tm.getD i 0) (L.getD i Rq0) bq T1) rfl j5 ?_
  rintro _ g3 m3 ⟨rfl, S3⟩ hc3 hl3
  intro wr3
  obtain ⟨Sl2, Ss2, W2, T2', x1, x2, x3⟩ := S3
  have T2 : TabM (runT L Tm (i + 1)).1 0 Sl2 Ss2 W2 g3 m3 := T2'
  have O2 : OutOK (gB L Tm i 0) out bO m3 g3 (OwnT 0 Sl2 Ss2 W2 (runT L Tm (i + 1)).1.lk.length) := by
   rw [gB_0]
   exact O1.keep (by omega) (fun a h1 h2 h3 => x2 a h2 h3) (fun a q => x1 a q)
  have hnx : (runT L Tm i).1.nx ≤ (runT L Tm (i + 1)).1.nx ∧ (runT L Tm (i + 1)).1.nx ≤ (runT L Tm i).1.nx + 5 := (BJ r1 (hro (by omega)) (hto (by omega)) (by have := hR.2.2.1; omega)).nx
  have s1 := (J2 hR (i + 1) (by omega)).1
  have sl4 := s1.2.2.1
  refine B1 6 [3, 1, 0, 0, 0, 0] [] j2 (by decide +kernel) trivial ?_
  refine A1 (A2 (A0 (B6 j5 (D0 j5 (A3 (A1 (B3 (F0 ?_))))))))
  refine E9 (fun (a : GM) => [.unk, .sl false b2 (Tm.map iT), .unk, .unk, .unk, .ptr 0 0 0, a.o, .unk, .unk, .unk, .int .i64 ((runT L Tm i).1.nx + a.n), .unk, .unk, .unk, .sl false b1 (L.map Rq.T), .int .i64 (L.map Rq.T).length, .int .i64 i]) (fun (a : GM) => a.g) (fun (a : GM) => a.m) (fun (a : GM) => a.n ≤ ((runT L Tm (i + 1)).1.nx - (runT L Tm i).1.nx).toNat ∧ TabM (runT L Tm (i + 1)).1 0 Sl2 Ss2 W2 a.g a.m ∧ OutOK (gB L Tm i a.n) a.o a.bO a.m a.g (OwnT 0 Sl2 Ss2 W2 (runT L Tm (i + 1)).1.lk.length)) (fun (a : GM) => ((runT L Tm (i + 1)).1.nx - (runT L Tm i).1.nx).toNat - a.n) ⟨0, out, bO, m3, g3⟩ ?_ ?_ ?_ ?_ ?_
  ·exact ⟨Nat.zero_le _, T2, O2⟩
  ·(repeat first | exact LE.nil _ | refine LE.unk _ _ ?_ | refine LE.eq _ _ _ rfl ?_ | refine LE.eq _ _ _ (by show V.int _ _ = V.int _ _; refine congrArg (V.int .i64) ?_; dsimp only; omega) ?_)
  ·exact LessH.refl _
  ·exact Nat.le_refl _
  intro ⟨n, o1, bO1, m4, g5⟩ hI ih
  have ih1 := ih
  obtain ⟨p0, pT, pO⟩ := hI
  dsimp only at p0 pT pO ⊢
  have p5 := pT.kid
  refine E8 (A2 (A2 (A0 (B6 j5 (C1 (off := 1) (s := 1) (r := false) j3 kz j3 ?_)))))
  (apply C5 (v := .int _ _) j2; exact Q0; exact C7; exact j5)
  refine I6 j6 ?_ ?_ <;> intro h9_3
  ·refine A3 (A1 (wT rfl (B0 (A1 (A2 (B3 (A2 (A0 (C1 (off := 2) (s := 1) (r := false) j3 kz j3 ?_)))))))))
   (apply C5 j2; exact Q0; rfl; exact j5)
   refine H0 rfl rfl (lenZ pT.kl) j3 (B6 j5 (A3 (A1 (B3 (F0 ?_)))))
   refine E9 (fun (a : GM) => [.unk, .sl false b2 (Tm.map iT), .unk, .unk, .unk, .ptr 0 0 0, a.o, .unk, .unk, .unk, .int .i64 ((runT L Tm i).1.nx + n), .unk, .unk, .unk, .sl false b1 (L.map Rq.T), .int .i64 (L.map Rq.T).length, .int .i64 i, .unk, .unk, .unk, .unk, .unk, .unk, .unk, .unk, .unk, .unk, .unk, .unk, .unk, .unk, .unk, .unk, .unk, .unk, .unk, .unk, Sl2, .int .i64 (rwW (runT L Tm (i + 1)).1.lk W2).length, .int .i64 a.n]) (fun (a : GM) => a.g) (fun (a : GM) => a.m) (fun (a : GM) => a.n ≤ (runT L Tm (i + 1)).1.lk.length ∧ TabM (runT L Tm (i + 1)).1 0 Sl2 Ss2 W2 a.g a.m ∧ OutOK (gC L Tm i n a.n) a.o a.bO a.m a.g (OwnT 0 Sl2 Ss2 W2 (runT L Tm (i + 1)).1.lk.length)) (fun (a : GM) => (runT L Tm (i + 1)).1.lk.length - a.n) ⟨0, o1, bO1, m4, g5⟩ ?_ ?_ ?_ ?_ ?_
   ·exact ⟨Nat.zero_le _, pT, by rw [gC_0]; exact pO⟩
   ·(repeat first | exact LE.nil _ | refine LE.unk _ _ ?_ | refine LE.eq _ _ _ rfl ?_)
   ·exact LessH.refl _
   ·exact Nat.le_refl _
   intro ⟨k, o2, bO2, m5, g4⟩ hI ih
   obtain ⟨c0, cT, cO⟩ := hI
   dsimp only at c0 cT cO ⊢
   have hG7 := gC_len hR (i := i) (n := n) (k := k) (by omega) (by omega)
   have c5 := cT.kid
   rcases id cO with ⟨e0, e1⟩ | ⟨e1, gO, hbO, hnO⟩
   all_goals have hlw := B5 (runT L Tm (i + 1)).1.lk W2
   ·skip
    subst e1
    refine E8 (A2 (A0 ?_))
    refine I6 j6 ?_ ?_ <;> intro h12_0
    ·refine A3 (A1 (A2 (wT rfl (B0 (A1 (A2 (B3 (A2 ?_))))))))
     have hk : k < (runT L Tm (i + 1)).1.lk.length := by omega
     obtain ⟨lb, rfl, kl⟩ : ∃ lb, Sl2 = .view lb 0 (rwW (runT L Tm (i + 1)).1.lk W2).length ∧ g4 lb = some ⟨rwW (runT L Tm (i + 1)).1.lk W2, 5, 29⟩ := by
      rcases cT.kl with ⟨_, hz⟩ | ⟨lb, e, q⟩
      ·have q := congrArg List.length hz; rw [B5] at q; exact absurd hk (by rw [q]; exact Nat.not_lt_zero _)
      ·exact ⟨lb, e, q⟩
     have kwc := (cT.kw _ hk).cell
     have hrow : (rwW (runT L Tm (i + 1)).1.lk W2)[k]? = some [.str ((runT L Tm (i + 1)).1.lk.getD k Lk0).nm, .int .i64 ((runT L Tm (i + 1)).1.lk.getD k Lk0).tk, .int .i64 ((runT L Tm (i + 1)).1.lk.getD k Lk0).hd, .int .i64 ((runT L Tm (i + 1)).1.lk.getD k Lk0).ex, W2 k] := F4 hk
     have hln := B5 (runT L Tm (i + 1)).1.lk W2
     refine A0 ?_
     (refine r0 ((B9 (b := ⟨rwW (runT L Tm (i + 1)).1.lk W2, 5, 29⟩) rfl rfl rfl rfl (by exact Q0) rfl (by omega) (by omega)).to (v' := .ptr lb k 0) (by rw [F7])) rfl rfl rfl ?_)
     (apply F9 (vs := [.str ((runT L Tm (i + 1)).1.lk.getD k Lk0).nm, .int .i64 ((runT L Tm (i + 1)).1.lk.getD k Lk0).tk, .int .i64 ((runT L Tm (i + 1)).1.lk.getD k Lk0).hd, .int .i64 ((runT L Tm (i + 1)).1.lk.getD k Lk0).ex, W2 k]) j2; exact Q0; exact hrow; rfl; exact kb; rfl; exact j3)
     refine H3 j6 ?_
     (apply D4 (u := .agg [.str _, .int _ _, .int _ _, .int _ _, _]) j3; exact Q0; exact C7; rfl; rfl; rfl; (first | rfl | (show ((W2 k).cell && true) = true; rw [kwc]; rfl)); exact kb; rfl; exact j2)
     refine A3 (A1 (A2 (A0 (C1 (off := 1) (s := 1) (r := false) j3 kz j3 ?_))))
     (apply C5 (v := .int _ _) j2; exact Q0; exact C7; exact j5)
     refine B6 j5 ?_
     refine H5 j6 ?_ ?_ <;> intro h14_3
     ·refine C4 j5 (C1 (off := 2) (s := 1) (r := false) j3 kz j3 ?_)
      (apply C5 (v := .int _ _) j2; exact Q0; exact C7; exact j5)
      refine rne j6 ?_ ?_ <;> intro h14_7
      ·refine C0 (e := true) j6 (A3 (A1 (wT rfl (A0 ?_))))
       first | refine K1 j5 ?_ | refine rmN j5 ?_
       refine C1 (off := 0) (s := 1) (r := false) j3 kz j3 ?_
       (apply C5 (v := .str _) j2; exact Q0; exact C7; exact j5)
       refine C1 (off := 2) (s := 1) (r := false) j3 kz j3 ?_
       (apply C5 (v := .int _ _) j2; exact Q0; exact C7; exact j5)
       refine C1 (off := 1) (s := 1) (r := false) j3 kz j3 ?_
       (apply C5 (v := .int _ _) j2; exact Q0; exact C7; exact j5)
       refine C1 (off := 3) (s := 1) (r := false) j3 kz j3 ?_
       (apply C5 (v := .int _ _) j2; exact Q0; exact C7; exact j5)
       refine L6 (cs := [.str _, .int _ _, .int _ _, .int _ _]) j5 (S8 (es := [[.str _, .int _ _, .int _ _, .int _ _]]) j4 kz kb rfl rfl j3 ?_)
       first | (apply rap (s' := 40) (es := [[.str _, .int _ _, .int _ _, .int _ _]]) rfl rfl; exact Q0; exact j2; (first | rfl | (rw [List.length_map]; omega)); exact j2; exact kz; exact BM; exact AC; exact Q24; exact Q24; exact j3) | (apply ran (s' := 40) (es := [[.str _, .int _ _, .int _ _, .int _ _]]) rfl j3 kz; exact BM; exact AC; exact Q24; exact Q24; exact Q24; exact j3)
       refine S6 j5 (A3 (B7 (A1 ?_)))
       refine Y1 fun G hG => ?_
       refine A0 (C3 j3 ?_ ?_ j3 ?_)
       ·exact H1
       ·exact H1
       refine B6 j5 (A3 (D1 ?_))
       first
        | (refine H4 (ih ⟨k + 1, .view (m5 + 1 + 1) 0 1, m5 + 1 + 1, m5 + 1 + 1 + 1, G⟩ ⟨by dsimp only; omega, cT.keep (by dsimp only; omega) (fun a q => ?_), .inr ⟨?_, ?_, by dsimp only; omega, fun q => ?_⟩⟩ (by dsimp only; omega)) (by (repeat first | exact LE.nil _ | refine LE.unk _ _ ?_ | refine LE.eq _ _ _ rfl ?_)) (LessH.refl _) (Nat.le_refl _)
           · have := cT.lt q
             skip
             dsimp only; rw [hG]; (simp (disch := (first | omega | assumption)) only [↓appC, ↓updN, ↓updS, ↓app0])
           · rw [V9 hk ⟨h14_3, h14_7⟩, e0]; rfl
           · dsimp only; rw [hG, V9 hk ⟨h14_3, h14_7⟩]; rw [e0]; exact Q0
           · have := cT.lt q; dsimp only at this; omega)
        | (refine H4 (ih ⟨k + 1, .nsl, bO2, m5 + 1, G⟩ ⟨by dsimp only; omega, cT.ext (by dsimp only; omega) (fun a ha => by dsimp only; rw [hG]; (simp (disch := (first | omega | assumption)) only [↓appC, ↓updN, ↓updS, ↓app0])), ?_⟩ (by dsimp only; omega)) (by (repeat first | exact LE.nil _ | refine LE.unk _ _ ?_ | refine LE.eq _ _ _ rfl ?_)) (LessH.refl _) (Nat.le_refl _)
           rw [gC_n hk (fun e => by first | exact h14_7 e.2 | (have e1 := e.1; omega))]
           exact cO.keep (by dsimp only; omega) (fun a h1 h2 _ => by dsimp only; rw [hG]; (simp (disch := (first | omega | assumption)) only [↓appC, ↓updN, ↓updS, ↓app0])) (fun a q => .inl q))
      ·refine C0 (e := false) j6 (A3 (A1 (wF rfl (B0 (B7 (A1 ?_))))))
       refine Y1 fun G hG => ?_
       refine A0 (C3 j3 ?_ ?_ j3 ?_)
       ·exact H1
       ·exact H1
       refine B6 j5 (A3 (D1 ?_))
       first
        | (refine H4 (ih ⟨k + 1, .view (m5 + 1 + 1) 0 1, m5 + 1 + 1, m5 + 1 + 1 + 1, G⟩ ⟨by dsimp only; omega, cT.keep (by dsimp only; omega) (fun a q => ?_), .inr ⟨?_, ?_, by dsimp only; omega, fun q => ?_⟩⟩ (by dsimp only; omega)) (by (repeat first | exact LE.nil _ | refine LE.unk _ _ ?_ | refine LE.eq _ _ _ rfl ?_)) (LessH.refl _) (Nat.le_refl _)
           · have := cT.lt q
             skip
             dsimp only; rw [hG]; (simp (disch := (first | omega | assumption)) only [↓appC, ↓updN, ↓updS, ↓app0])
           · rw [V9 hk ⟨h14_3, h14_7⟩, e0]; rfl
           · dsimp only; rw [hG, V9 hk ⟨h14_3, h14_7⟩]; rw [e0]; exact Q0
           · have := cT.lt q; dsimp only at this; omega)
        | (refine H4 (ih ⟨k + 1, .nsl, bO2, m5 + 1, G⟩ ⟨by dsimp only; omega, cT.ext (by dsimp only; omega) (fun a ha => by dsimp only; rw [hG]; (simp (disch := (first | omega | assumption)) only [↓appC, ↓updN, ↓updS, ↓app0])), ?_⟩ (by dsimp only; omega)) (by (repeat first | exact LE.nil _ | refine LE.unk _ _ ?_ | refine LE.eq _ _ _ rfl ?_)) (LessH.refl _) (Nat.le_refl _)
           rw [gC_n hk (fun e => by first | exact h14_7 e.2 | (have e1 := e.1; omega))]
           exact cO.keep (by dsimp only; omega) (fun a h1 h2 _ => by dsimp only; rw [hG]; (simp (disch := (first | omega | assumption)) only [↓appC, ↓updN, ↓updS, ↓app0])) (fun a q => .inl q))
     ·refine C4 j5 (A4 j3 (A4 j3 (A4 j3 (C0 (e := false) j6 (A3 (A1 (wF rfl (B0 (B7 (A1 ?_))))))))))
      refine Y1 fun G hG => ?_
      refine A0 (C3 j3 ?_ ?_ j3 ?_)
      ·exact H1
      ·exact H1
      refine B6 j5 (A3 (D1 ?_))
      first
       | (refine H4 (ih ⟨k + 1, .view (m5 + 1 + 1) 0 1, m5 + 1 + 1, m5 + 1 + 1 + 1, G⟩ ⟨by dsimp only; omega, cT.keep (by dsimp only; omega) (fun a q => ?_), .inr ⟨?_, ?_, by dsimp only; omega, fun q => ?_⟩⟩ (by dsimp only; omega)) (by (repeat first | exact LE.nil _ | refine LE.unk _ _ ?_ | refine LE.eq _ _ _ rfl ?_)) (LessH.refl _) (Nat.le_refl _)
          · have := cT.lt q
            skip
            dsimp only; rw [hG]; (simp (disch := (first | omega | assumption)) only [↓appC, ↓updN, ↓updS, ↓app0])
          · rw [V9 hk ⟨h14_3, h14_7⟩, e0]; rfl
          · dsimp only; rw [hG, V9 hk ⟨h14_3, h14_7⟩]; rw [e0]; exact Q0
          · have := cT.lt q; dsimp only at this; omega)
       | (refine H4 (ih ⟨k + 1, .nsl, bO2, m5 + 1, G⟩ ⟨by dsimp only; omega, cT.ext (by dsimp only; omega) (fun a ha => by dsimp only; rw [hG]; (simp (disch := (first | omega | assumption)) only [↓appC, ↓updN, ↓updS, ↓app0])), ?_⟩ (by dsimp only; omega)) (by (repeat first | exact LE.nil _ | refine LE.unk _ _ ?_ | refine LE.eq _ _ _ rfl ?_)) (LessH.refl _) (Nat.le_refl _)
          rw [gC_n hk (fun e => by first | exact h14_7 e.2 | (have e1 := e.1; omega))]
          exact cO.keep (by dsimp only; omega) (fun a h1 h2 _ => by dsimp only; rw [hG]; (simp (disch := (first | omega | assumption)) only [↓appC, ↓updN, ↓updS, ↓app0])) (fun a q => .inl q))
    ·refine A3 (A1 (A2 (wF rfl (E5 (E6 (D7 (C8 (B7 (A1 (A0 (B6 j5 (C3 j3 ?_ ?_ j3 ?_))))))))))))
     ·exact H1
     ·exact H1
     refine D0 j5 (A3 (D1 ?_))
     refine H4 (ih1 ⟨n + 1, .nsl, bO2, m5, g4⟩ ⟨by dsimp only; omega, cT, ?_⟩ (by dsimp only; omega)) (by (repeat first | exact LE.nil _ | refine LE.unk _ _ ?_ | refine LE.eq _ _ _ rfl ?_ | refine LE.eq _ _ _ (by show V.int _ _ = V.int _ _; refine congrArg (V.int .i64) ?_; dsimp only; omega) ?_)) (LessH.refl _) (Nat.le_refl _)
     rw [← gC_end (show (runT L Tm (i + 1)).1.lk.length ≤ k by omega)]
     exact cO
   ·skip
    subst e1
    refine E8 (A2 (A0 ?_))
    refine I6 j6 ?_ ?_ <;> intro h12_0
    ·refine A3 (A1 (A2 (wT rfl (B0 (A1 (A2 (B3 (A2 ?_))))))))
     have hk : k < (runT L Tm (i + 1)).1.lk.length := by omega
     obtain ⟨lb, rfl, kl⟩ : ∃ lb, Sl2 = .view lb 0 (rwW (runT L Tm (i + 1)).1.lk W2).length ∧ g4 lb = some ⟨rwW (runT L Tm (i + 1)).1.lk W2, 5, 29⟩ := by
      rcases cT.kl with ⟨_, hz⟩ | ⟨lb, e, q⟩
      ·have q := congrArg List.length hz; rw [B5] at q; exact absurd hk (by rw [q]; exact Nat.not_lt_zero _)
      ·exact ⟨lb, e, q⟩
     have kwc := (cT.kw _ hk).cell
     have hrow : (rwW (runT L Tm (i + 1)).1.lk W2)[k]? = some [.str ((runT L Tm (i + 1)).1.lk.getD k Lk0).nm, .int .i64 ((runT L Tm (i + 1)).1.lk.getD k Lk0).tk, .int .i64 ((runT L Tm (i + 1)).1.lk.getD k Lk0).hd, .int .i64 ((runT L Tm (i + 1)).1.lk.getD k Lk0).ex, W2 k] := F4 hk
     have hln := B5 (runT L Tm (i + 1)).1.lk W2
     refine A0 ?_
     (refine r0 ((B9 (b := ⟨rwW (runT L Tm (i + 1)).1.lk W2, 5, 29⟩) rfl rfl rfl rfl (by exact Q0) rfl (by omega) (by omega)).to (v' := .ptr lb k 0) (by rw [F7])) rfl rfl rfl ?_)
     (apply F9 (vs := [.str ((runT L Tm (i + 1)).1.lk.getD k Lk0).nm, .int .i64 ((runT L Tm (i + 1)).1.lk.getD k Lk0).tk, .int .i64 ((runT L Tm (i + 1)).1.lk.getD k Lk0).hd, .int .i64 ((runT L Tm (i + 1)).1.lk.getD k Lk0).ex, W2 k]) j2; exact Q0; exact hrow; rfl; exact kb; rfl; exact j3)
     refine H3 j6 ?_
     (apply D4 (u := .agg [.str _, .int _ _, .int _ _, .int _ _, _]) j3; exact Q0; exact C7; rfl; rfl; rfl; (first | rfl | (show ((W2 k).cell && true) = true; rw [kwc]; rfl)); exact kb; rfl; exact j2)
     refine A3 (A1 (A2 (A0 (C1 (off := 1) (s := 1) (r := false) j3 kz j3 ?_))))
     (apply C5 (v := .int _ _) j2; exact Q0; exact C7; exact j5)
     refine B6 j5 ?_
     refine H5 j6 ?_ ?_ <;> intro h14_3
     ·refine C4 j5 (C1 (off := 2) (s := 1) (r := false) j3 kz j3 ?_)
      (apply C5 (v := .int _ _) j2; exact Q0; exact C7; exact j5)
      refine rne j6 ?_ ?_ <;> intro h14_7
      ·refine C0 (e := true) j6 (A3 (A1 (wT rfl (A0 ?_))))
       first | refine K1 j5 ?_ | refine rmN j5 ?_
       refine C1 (off := 0) (s := 1) (r := false) j3 kz j3 ?_
       (apply C5 (v := .str _) j2; exact Q0; exact C7; exact j5)
       refine C1 (off := 2) (s := 1) (r := false) j3 kz j3 ?_
       (apply C5 (v := .int _ _) j2; exact Q0; exact C7; exact j5)
       refine C1 (off := 1) (s := 1) (r := false) j3 kz j3 ?_
       (apply C5 (v := .int _ _) j2; exact Q0; exact C7; exact j5)
       refine C1 (off := 3) (s := 1) (r := false) j3 kz j3 ?_
       (apply C5 (v := .int _ _) j2; exact Q0; exact C7; exact j5)
       refine L6 (cs := [.str _, .int _ _, .int _ _, .int _ _]) j5 (S8 (es := [[.str _, .int _ _, .int _ _, .int _ _]]) j4 kz kb rfl rfl j3 ?_)
       first | (apply rap (s' := 40) (es := [[.str _, .int _ _, .int _ _, .int _ _]]) rfl rfl; exact Q0; exact j2; (first | rfl | (rw [List.length_map]; omega)); exact j2; exact kz; exact BM; exact AC; exact Q24; exact Q24; exact j3) | (apply ran (s' := 40) (es := [[.str _, .int _ _, .int _ _, .int _ _]]) rfl j3 kz; exact BM; exact AC; exact Q24; exact Q24; exact Q24; exact j3)
       refine S6 j5 (A3 (B7 (A1 ?_)))
       refine Y1 fun G hG => ?_
       refine A0 (C3 j3 ?_ ?_ j3 ?_)
       ·exact H1
       ·exact H1
       refine B6 j5 (A3 (D1 ?_))
       first
        | (refine H4 (ih ⟨k + 1, .view (m5 + 1 + 1) 0 ((gC L Tm i n k).length + 1), m5 + 1 + 1, m5 + 1 + 1 + 1, G⟩ ⟨by dsimp only; omega, cT.keep (by dsimp only; omega) (fun a q => ?_), .inr ⟨?_, ?_, by dsimp only; omega, fun q => ?_⟩⟩ (by dsimp only; omega)) (by (repeat first | exact LE.nil _ | refine LE.unk _ _ ?_ | refine LE.eq _ _ _ rfl ?_)) (LessH.refl _) (Nat.le_refl _)
           · have := cT.lt q
             have hne : a ≠ bO2 := fun e => hnO (e ▸ q)
             dsimp only; rw [hG]; (simp (disch := (first | omega | assumption)) only [↓appC, ↓updN, ↓updS, ↓app0])
           · rw [V9 hk ⟨h14_3, h14_7⟩, List.length_append]; rfl
           · dsimp only; rw [hG, V9 hk ⟨h14_3, h14_7⟩]; show _ = some (Blk.mk ((_ ++ [_]).map Gr.V) 4 55); rw [List.map_append]; exact Q0
           · have := cT.lt q; dsimp only at this; omega)
        | (refine H4 (ih ⟨k + 1, .view bO2 0 (gC L Tm i n k).length, bO2, m5 + 1, G⟩ ⟨by dsimp only; omega, cT.ext (by dsimp only; omega) (fun a ha => by dsimp only; rw [hG]; (simp (disch := (first | omega | assumption)) only [↓appC, ↓updN, ↓updS, ↓app0])), ?_⟩ (by dsimp only; omega)) (by (repeat first | exact LE.nil _ | refine LE.unk _ _ ?_ | refine LE.eq _ _ _ rfl ?_)) (LessH.refl _) (Nat.le_refl _)
           rw [gC_n hk (fun e => by first | exact h14_7 e.2 | (have e1 := e.1; omega))]
           exact cO.keep (by dsimp only; omega) (fun a h1 h2 _ => by dsimp only; rw [hG]; (simp (disch := (first | omega | assumption)) only [↓appC, ↓updN, ↓updS, ↓app0])) (fun a q => .inl q))
      ·refine C0 (e := false) j6 (A3 (A1 (wF rfl (B0 (B7 (A1 ?_))))))
       refine Y1 fun G hG => ?_
       refine A0 (C3 j3 ?_ ?_ j3 ?_)
       ·exact H1
       ·exact H1
       refine B6 j5 (A3 (D1 ?_))
       first
        | (refine H4 (ih ⟨k + 1, .view (m5 + 1 + 1) 0 ((gC L Tm i n k).length + 1), m5 + 1 + 1, m5 + 1 + 1 + 1, G⟩ ⟨by dsimp only; omega, cT.keep (by dsimp only; omega) (fun a q => ?_), .inr ⟨?_, ?_, by dsimp only; omega, fun q => ?_⟩⟩ (by dsimp only; omega)) (by (repeat first | exact LE.nil _ | refine LE.unk _ _ ?_ | refine LE.eq _ _ _ rfl ?_)) (LessH.refl _) (Nat.le_refl _)
           · have := cT.lt q
             have hne : a ≠ bO2 := fun e => hnO (e ▸ q)
             dsimp only; rw [hG]; (simp (disch := (first | omega | assumption)) only [↓appC, ↓updN, ↓updS, ↓app0])
           · rw [V9 hk ⟨h14_3, h14_7⟩, List.length_append]; rfl
           · dsimp only; rw [hG, V9 hk ⟨h14_3, h14_7⟩]; show _ = some (Blk.mk ((_ ++ [_]).map Gr.V) 4 55); rw [List.map_append]; exact Q0
           · have := cT.lt q; dsimp only at this; omega)
        | (refine H4 (ih ⟨k + 1, .view bO2 0 (gC L Tm i n k).length, bO2, m5 + 1, G⟩ ⟨by dsimp only; omega, cT.ext (by dsimp only; omega) (fun a ha => by dsimp only; rw [hG]; (simp (disch := (first | omega | assumption)) only [↓appC, ↓updN, ↓updS, ↓app0])), ?_⟩ (by dsimp only; omega)) (by (repeat first | exact LE.nil _ | refine LE.unk _ _ ?_ | refine LE.eq _ _ _ rfl ?_)) (LessH.refl _) (Nat.le_refl _)
           rw [gC_n hk (fun e => by first | exact h14_7 e.2 | (have e1 := e.1; omega))]
           exact cO.keep (by dsimp only; omega) (fun a h1 h2 _ => by dsimp only; rw [hG]; (simp (disch := (first | omega | assumption)) only [↓appC, ↓updN, ↓updS, ↓app0])) (fun a q => .inl q))
     ·refine C4 j5 (A4 j3 (A4 j3 (A4 j3 (C0 (e := false) j6 (A3 (A1 (wF rfl (B0 (B7 (A1 ?_))))))))))
      refine Y1 fun G hG => ?_
      refine A0 (C3 j3 ?_ ?_ j3 ?_)
      ·exact H1
      ·exact H1
      refine B6 j5 (A3 (D1 ?_))
      first
       | (refine H4 (ih ⟨k + 1, .view (m5 + 1 + 1) 0 ((gC L Tm i n k).length + 1), m5 + 1 + 1, m5 + 1 + 1 + 1, G⟩ ⟨by dsimp only; omega, cT.keep (by dsimp only; omega) (fun a q => ?_), .inr ⟨?_, ?_, by dsimp only; omega, fun q => ?_⟩⟩ (by dsimp only; omega)) (by (repeat first | exact LE.nil _ | refine LE.unk _ _ ?_ | refine LE.eq _ _ _ rfl ?_)) (LessH.refl _) (Nat.le_refl _)
          · have := cT.lt q
            have hne : a ≠ bO2 := fun e => hnO (e ▸ q)
            dsimp only; rw [hG]; (simp (disch := (first | omega | assumption)) only [↓appC, ↓updN, ↓updS, ↓app0])
          · rw [V9 hk ⟨h14_3, h14_7⟩, List.length_append]; rfl
          · dsimp only; rw [hG, V9 hk ⟨h14_3, h14_7⟩]; show _ = some (Blk.mk ((_ ++ [_]).map Gr.V) 4 55); rw [List.map_append]; exact Q0
          · have := cT.lt q; dsimp only at this; omega)
       | (refine H4 (ih ⟨k + 1, .view bO2 0 (gC L Tm i n k).length, bO2, m5 + 1, G⟩ ⟨by dsimp only; omega, cT.ext (by dsimp only; omega) (fun a ha => by dsimp only; rw [hG]; (simp (disch := (first | omega | assumption)) only [↓appC, ↓updN, ↓updS, ↓app0])), ?_⟩ (by dsimp only; omega)) (by (repeat first | exact LE.nil _ | refine LE.unk _ _ ?_ | refine LE.eq _ _ _ rfl ?_)) (LessH.refl _) (Nat.le_refl _)
          rw [gC_n hk (fun e => by first | exact h14_7 e.2 | (have e1 := e.1; omega))]
          exact cO.keep (by dsimp only; omega) (fun a h1 h2 _ => by dsimp only; rw [hG]; (simp (disch := (first | omega | assumption)) only [↓appC, ↓updN, ↓updS, ↓app0])) (fun a q => .inl q))
    ·refine A3 (A1 (A2 (wF rfl (E5 (E6 (D7 (C8 (B7 (A1 (A0 (B6 j5 (C3 j3 ?_ ?_ j3 ?_))))))))))))
     ·exact H1
     ·exact H1
     refine D0 j5 (A3 (D1 ?_))
     refine H4 (ih1 ⟨n + 1, .view bO2 0 (gC L Tm i n k).length, bO2, m5, g4⟩ ⟨by dsimp only; omega, cT, ?_⟩ (by dsimp only; omega)) (by (repeat first | exact LE.nil _ | refine LE.unk _ _ ?_ | refine LE.eq _ _ _ rfl ?_ | refine LE.eq _ _ _ (by show V.int _ _ = V.int _ _; refine congrArg (V.int .i64) ?_; dsimp only; omega) ?_)) (LessH.refl _) (Nat.le_refl _)
     rw [← gC_end (show (runT L Tm (i + 1)).1.lk.length ≤ k by omega)]
     exact cO
  ·refine A3 (A1 (wF rfl (E5 (E6 (D7 (C8 (B7 (A1 (A0 (C3 j3 ?_ ?_ j3 ?_))))))))))
   ·exact H1
   ·exact H1
   refine B6 j5 (A3 (D1 ?_))
   refine H4 (ih0 ⟨i + 1, o1, bO1, m4, Sl2, Ss2, W2, g5⟩ ⟨by dsimp only; omega, pT, ?_⟩ (by dsimp only; omega)) (by (repeat first | exact LE.nil _ | refine LE.unk _ _ ?_ | refine LE.eq _ _ _ rfl ?_)) (LessH.refl _) (Nat.le_refl _)
   have e : n = ((runT L Tm (i + 1)).1.nx - (runT L Tm i).1.nx).toNat := by omega
   subst e
   exact pO
 ·refine A3 (A1 (A2 (wF rfl (E5 (E6 (D7 (C8 (A1 (A2 (A0 ?_))))))))))
  (refine r0 (oMv rfl rfl) rfl rfl rfl ?_)
  (refine r0 (oAs rfl rfl) rfl rfl rfl ?_)
  refine A3 (A1 (A9 ?_))
  obtain rfl : i = L.length := by omega
  exact P9 [bO] (A5 rfl A8) (SnapL.cons _ _ _ _ (.one _ _ qO.snap) SnapL.nil)
theorem s23 (L : List Rq) (Tm : List Int) (b1 b2 : Bool) (hR : Reqs L Tm) : Pure En 23 [.one (.sl b1 (L.map Rq.T)), .one (.sl b2 (Tm.map iT))] [.one (.sl false ((gA L Tm L.length).map Gr.T)), .one (.int .i64 0)] := by
 refine Pure.of_wp Try.func23 rfl kb ?_
 refine A2 (A0 (AA j5 (D0 j5 (A3 (A1 (A2 (A2 (A0 (I8 j5 (I8 j5 (AB (s65 L Tm b1 b2 hR) rfl j5 (D0 j5 ?_))))))))))))
 refine A3 (A1 (A2 (A0 (B6 j5 ?_))))
 refine rne j6 (fun h => absurd h ((fun hh => hh rfl))) ?_
 intro h2_1
 refine A3 (A1 (wF rfl (B0 (A1 (A2 (A0 (I8 j5 (I8 j5 (AB (s66 L Tm b1 b2 hR) rfl j5 (raL j5 (D0 j5 (A3 ?_))))))))))))
 refine A1 (A9 ?_)
 exact fin rfl rfl
open Go.V
set_option linter.unusedVariables false
set_option linter.unusedSimpArgs false
set_option maxRecDepth 20000
set_option maxHeartbeats 4000000
theorem s24 (L : List Rq) (Tm : List Int) (b1 b2 : Bool) (hR : Reqs L Tm) : Pure En 24 [.one (.sl b1 (L.map Rq.T)), .one (.sl b2 (Tm.map iT))] [.one (.sl true ((gA L Tm L.length).map Gr.T)), .one (.int .i64 0)] := by
 have hl1 : (L.map Rq.T).length = L.length := List.length_map ..
 have hl2 : (Tm.map iT).length = Tm.length := List.length_map ..
 have hl3 := hR.2.2.1
 have hl4 := hR.2.2.2
 refine Pure.of_wp Try.func24 rfl kb ?_
 refine A2 (A0 (AA j5 (D0 j5 (A3 (A1 (A2 (A2 (A0 (I8 j5 (H0 rfl rfl rfl j3 ?_))))))))))
 refine V4 j6 (fun h => absurd h (by omega)) ?_
 intro h1_2
 refine C4 j5 (I8 j5 (H0 rfl rfl rfl j3 ?_))
 refine V4 j6 (fun h => absurd h (by omega)) ?_
 intro h1_6
 refine C0 (e := false) j6 (A3 (A1 (wF rfl (B0 (A1 (A2 (A2 (A0 (I8 j5 (I8 j5 (AB (s26 L Tm b1 b2 hR) rfl j5 (rmT j5 ?_))))))))))))
 refine T6 j6 (T6 j6 (T6 j6 (H3 j6 ?_)))
 (apply D4 (u := .agg [.int _ _, .int _ _, _, _]) j3; exact Q0; exact C7; rfl; rfl; rfl; rfl; exact kb; rfl; exact j2)
 refine raL j5 (D0 j5 (A3 (A1 (A2 (A0 (B6 j5 ?_))))))
 refine rne j6 (fun h => absurd h ((fun hh => hh rfl))) ?_
 intro h4_1
 refine A3 (A1 (wF rfl (B0 (A1 (A2 (A0 (S8 (es := []) j4 kz kb rfl rfl j3 (S6 j5 (A3 (A1 (A2 (A0 ?_))))))))))))
 refine AB s67 rfl j5 (H3 j6 ?_)
 (apply D4 (u := .agg [.int _ _, .int _ _, _, _]) j3; exact Q0; exact C7; rfl; rfl; rfl; rfl; exact kb; rfl; exact j2)
 refine A3 (A1 (A2 (A2 (A0 (D0 j5 (A3 (A1 (B3 (F0 ?_)))))))))
 refine E9 (fun (a : Nat × Bool × Nat × Nat) => [.sl false b1 (L.map Rq.T), .sl false b2 (Tm.map iT), .unk, .unk, .unk, .unk, .unk, .unk, .unk, .view a.2.2.1 0 (gA L Tm a.1).length, .ptr 2 0 0, .int .i64 a.1]) (fun (a : Nat × Bool × Nat × Nat) => hp [(a.2.2.1, ⟨(gA L Tm a.1).map Gr.V, 4, 55⟩), (2, ⟨[[.int .i64 (runT L Tm a.1).1.tm, .int .i64 (runT L Tm a.1).1.nx, .sl true a.2.1 ((runT L Tm a.1).1.lk.map (Lk.T false)), .sl true a.2.1 ((runT L Tm a.1).1.sn.map Sn.T)]], 4, 35⟩)]) (fun (a : Nat × Bool × Nat × Nat) => a.2.2.2) (fun (a : Nat × Bool × Nat × Nat) => a.1 ≤ L.length ∧ 3 ≤ a.2.2.2 ∧ a.2.2.1 < a.2.2.2 ∧ a.2.2.1 ≠ 2) (fun (a : Nat × Bool × Nat × Nat) => L.length - a.1) ⟨0, true, 1, 3⟩ ?_ ?_ ?_ ?_ ?_
 ·exact ⟨Nat.zero_le _, Nat.le_refl _, (by dsimp only; omega), (by dsimp only; omega)⟩
 ·(repeat first | exact LE.nil _ | refine LE.unk _ _ ?_ | refine LE.eq _ _ _ rfl ?_)
 ·(repeat first | exact E2 | (refine E3 ?_ ?_; exact S4))
 ·exact Nat.le_refl _
 intro ⟨i, f, bO, m⟩ hI ih
 have ih0 := ih
 obtain ⟨q0, q1, q2, q3⟩ := hI
 dsimp only at q0 q1 q2 q3 ⊢
 obtain ⟨r1, r2, r3, r4⟩ := J2 hR i q0
 have hnb := r1.2.1
 have hro : i < L.length → (L.getD i Rq0).OK := fun h => (hR.1 _ (G3 h)).1
 have hto : i < L.length → 0 ≤ Tm.getD i 0 ∧ Tm.getD i 0 ≤ 1000000000 := fun h => by have := hR.2.1 _ (G3 (L := Tm) (i := i) (d := 0) (by have := hR.2.2.2; omega)); omega
 refine E8 (A2 (A2 (A0 (B6 j5 (I8 j5 (H0 rfl rfl rfl j3 ?_))))))
 refine I6 j6 ?_ ?_ <;> intro h9_3
 ·refine A3 (A1 (wT rfl (B0 (A1 (A2 (B3 (A2 ?_)))))))
  have bq := Bq.of r1 (hro (by omega)) (hto (by omega)) (by have := hR.2.2.1; omega)
  have hnx : (runT L Tm i).1.nx ≤ (runT L Tm (i + 1)).1.nx ∧ (runT L Tm (i + 1)).1.nx ≤ (runT L Tm i).1.nx + 5 := (BJ r1 (hro (by omega)) (hto (by omega)) (by have := hR.2.2.1; omega)).nx
  have s1 := (J2 hR (i + 1) (by omega)).1
  have sl4 := s1.2.2.1
  have hlJ : ((runT L Tm (i + 1)).1.lk.map (Lk.T false)).length = (runT L Tm (i + 1)).1.lk.length := List.length_map ..
  refine C2 [0, 0, 0, 6, 14, 0, 0, 96, 224, 511, 1023, 2047, 2047, 0, 0, 28671, 65535] rfl (by decide +kernel) ?_
  (apply L8 (vs := [.int _ _, .int _ _, _, _]) j2; exact Q0; exact C7; rfl; exact kb; exact j4)
  refine BL j5 (I0 j5 ?_)
  (apply K6 j4; exact H1; (first | rfl | assumption | (first | exact D8 Rq.T Rq0 (k := i) (by omega) | exact D8 iT 0 (k := i) (by omega) | exact D8 (Lk.T false) Lk0 (k := k) (by omega))); exact j4)
  refine N1 (v := .int _ _) j8 (BL j5 (I0 j5 ?_))
  (apply K6 j4; exact H1; (first | rfl | assumption | (first | exact D8 Rq.T Rq0 (k := i) (by omega) | exact D8 iT 0 (k := i) (by omega) | exact D8 (Lk.T false) Lk0 (k := k) (by omega))); exact j4)
  refine dlir (vs := [.int _ _, .int _ _, .int _ _, .int _ _, .str _]) j3 kb j4 ?_
  refine dcl (s68 (runT L Tm i).1 false f f (Tm.getD i 0) (L.getD i Rq0) bq (OK.w4 r1) (OK.hd r1) (OK.hdE r1 _) (by have q := (hro (by omega)).2.2.1; omega)) rfl j5 ?_
  refine dmT j5 (dex j6 (dex j6 (dal j6 (dal j6 ?_))))
  (apply dst (u := .agg [.int _ _, .int _ _, _, _]) rfl rfl rfl; exact Q0; exact C7; rfl; rfl; rfl; rfl; exact kb; rfl; rfl; rfl)
  (apply dst (u := .agg [.int _ _, .int _ _, .int _ _, .int _ _]) rfl rfl rfl; exact Q0; exact C7; rfl; rfl; rfl; rfl; exact kb; rfl; rfl; rfl)
  refine B1 17 [3, 3, 3, 3, 0, 0, 0, 0, 0, 0, 0, 0, 0, 0, 0, 0, 1] [(0, 13), (0, 14), (13, 14)] j2 (by decide +kernel) ?_ ?_
  ·(simp [ClearL, ids]; try omega)
  refine A1 (A2 (A2 (A0 (C1 (off := 1) (s := 1) (r := false) j3 kz j3 ?_))))
  (apply C5 (v := .int _ _) j2; exact Q0; exact C7; exact j5)
  refine D0 j5 (A3 (A1 (B3 (F0 ?_))))
  refine E9 (fun (a : Nat × Nat × Nat) => [.sl false b1 (L.map Rq.T), .sl false b2 (Tm.map iT), .unk, .unk, .unk, .unk, .unk, .unk, .unk, .view a.2.1 0 (gB L Tm i a.1).length, .ptr 2 0 0, .int .i64 i, .ptr m 0 0, .unk, .int .i64 ((runT L Tm i).1.nx + a.1)]) (fun (a : Nat × Nat × Nat) => hp [(a.2.1, ⟨(gB L Tm i a.1).map Gr.V, 4, 55⟩), (2, ⟨[[.int .i64 (runT L Tm i).1.tm, .int .i64 (runT L Tm i).1.nx, .sl true f ((runT L Tm i).1.lk.map (Lk.T false)), .sl true f ((runT L Tm i).1.sn.map Sn.T)]], 4, 35⟩), (m, ⟨[[.int .i64 (runT L Tm (i + 1)).1.tm, .int .i64 (runT L Tm (i + 1)).1.nx, .sl true false ((runT L Tm (i + 1)).1.lk.map (Lk.T false)), .sl true false ((runT L Tm (i + 1)).1.sn.map Sn.T)]], 4, 35⟩)]) (fun (a : Nat × Nat × Nat) => a.2.2) (fun (a : Nat × Nat × Nat) => a.1 ≤ ((runT L Tm (i + 1)).1.nx - (runT L Tm i).1.nx).toNat ∧ a.2.1 < a.2.2 ∧ a.2.1 ≠ 2 ∧ a.2.1 ≠ m ∧ m + 1 + 1 ≤ a.2.2) (fun (a : Nat × Nat × Nat) => ((runT L Tm (i + 1)).1.nx - (runT L Tm i).1.nx).toNat - a.1) ⟨0, bO, m + 1 + 1⟩ ?_ ?_ ?_ ?_ ?_
  ·exact ⟨Nat.zero_le _, by dsimp only; omega, by dsimp only; omega, by dsimp only; omega, Nat.le_refl _⟩
  ·dsimp only
   rw [gB_0]
   (repeat first | exact LE.nil _ | refine LE.unk _ _ ?_ | refine LE.eq _ _ _ rfl ?_ | refine LE.eq _ _ _ (by show V.int _ _ = V.int _ _; refine congrArg (V.int .i64) ?_; (try dsimp only); omega) ?_)
  ·dsimp only
   rw [gB_0]
   (repeat first | exact E2 | (refine E3 ?_ ?_; exact S4))
  ·exact Nat.le_refl _
  intro ⟨n, bO1, m1⟩ hI ih
  have ih1 := ih
  obtain ⟨p0, p1, p2, p3, p4⟩ := hI
  dsimp only at p0 p1 p2 p3 p4 ⊢
  refine E8 (A2 (A2 (A0 (B6 j5 (C1 (off := 1) (s := 1) (r := false) j3 kz j3 ?_)))))
  (apply C5 (v := .int _ _) j2; exact Q0; exact C7; exact j5)
  refine I6 j6 ?_ ?_ <;> intro h13_3
  ·refine A3 (A1 (wT rfl (B0 (A1 (A2 (B3 (A2 (A0 (D0 j5 (A3 (A1 (B3 ?_))))))))))))
   refine F0 ?_
   refine E9 (fun (a : Nat × Nat × Nat) => [.sl false b1 (L.map Rq.T), .sl false b2 (Tm.map iT), .unk, .unk, .unk, .unk, .unk, .unk, .unk, .view a.2.1 0 (gC L Tm i n a.1).length, .ptr 2 0 0, .int .i64 i, .ptr m 0 0, .unk, .int .i64 ((runT L Tm i).1.nx + n), .int .i64 a.1]) (fun (a : Nat × Nat × Nat) => hp [(a.2.1, ⟨(gC L Tm i n a.1).map Gr.V, 4, 55⟩), (2, ⟨[[.int .i64 (runT L Tm i).1.tm, .int .i64 (runT L Tm i).1.nx, .sl true f ((runT L Tm i).1.lk.map (Lk.T false)), .sl true f ((runT L Tm i).1.sn.map Sn.T)]], 4, 35⟩), (m, ⟨[[.int .i64 (runT L Tm (i + 1)).1.tm, .int .i64 (runT L Tm (i + 1)).1.nx, .sl true false ((runT L Tm (i + 1)).1.lk.map (Lk.T false)), .sl true false ((runT L Tm (i + 1)).1.sn.map Sn.T)]], 4, 35⟩)]) (fun (a : Nat × Nat × Nat) => a.2.2) (fun (a : Nat × Nat × Nat) => a.1 ≤ (runT L Tm (i + 1)).1.lk.length ∧ a.2.1 < a.2.2 ∧ a.2.1 ≠ 2 ∧ a.2.1 ≠ m ∧ m + 1 + 1 ≤ a.2.2) (fun (a : Nat × Nat × Nat) => (runT L Tm (i + 1)).1.lk.length - a.1) ⟨0, bO1, m1⟩ ?_ ?_ ?_ ?_ ?_
   ·exact ⟨Nat.zero_le _, by dsimp only; omega, by dsimp only; omega, by dsimp only; omega, by dsimp only; omega⟩
   ·dsimp only
    rw [gC_0]
    (repeat first | exact LE.nil _ | refine LE.unk _ _ ?_ | refine LE.eq _ _ _ rfl ?_ | refine LE.eq _ _ _ (by show V.int _ _ = V.int _ _; refine congrArg (V.int .i64) ?_; (try dsimp only); omega) ?_)
   ·dsimp only
    rw [gC_0]
    (repeat first | exact E2 | (refine E3 ?_ ?_; exact S4))
   ·exact Nat.le_refl _
   intro ⟨k, bO2, m2⟩ hI ih
   obtain ⟨c0, c1, c2, c3, c4⟩ := hI
   dsimp only at c0 c1 c2 c3 c4 ⊢
   have hG7 := gC_len hR (i := i) (n := n) (k := k) (by omega) (by omega)
   refine E8 (A2 (A2 (A0 (B6 j5 (C1 (off := 2) (s := 1) (r := false) j3 kz j3 ?_)))))
   (apply C5 (v := .sl _ _ _) j2; exact Q0; exact C7; exact j5)
   refine H0 rfl rfl rfl j3 ?_
   refine I6 j6 ?_ ?_ <;> intro h16_4
   ·refine A3 (A1 (wT rfl (B0 (A1 (A2 (B3 (A2 ?_)))))))
    have hk : k < (runT L Tm (i + 1)).1.lk.length := by omega
    have hhd := (s1.2.2.2.2.1 k hk).1.2.2.1.1
    refine A0 (C1 (off := 2) (s := 1) (r := false) j3 kz j3 ?_)
    (apply C5 (v := .sl _ _ _) j2; exact Q0; exact C7; exact j5)
    refine B6 j5 ?_
    (apply N0 j4; exact H1; (first | rfl | assumption | (first | exact D8 Rq.T Rq0 (k := i) (by omega) | exact D8 iT 0 (k := i) (by omega) | exact D8 (Lk.T false) Lk0 (k := k) (by omega))); exact j4)
    refine T7 (vs := [.str _, .int _ _, .int _ _, .int _ _, _]) j3 kb j4 (H3 j6 ?_)
    (apply D4 (u := .agg [.str _, .int _ _, .int _ _, .int _ _, _]) j3; exact Q0; exact C7; rfl; rfl; rfl; rfl; exact kb; rfl; exact j2)
    refine A3 (A1 (A2 (A0 (C1 (off := 1) (s := 1) (r := false) j3 kz j3 ?_))))
    (apply C5 (v := .int _ _) j2; exact Q0; exact C7; exact j5)
    refine B6 j5 ?_
    refine H5 j6 ?_ ?_ <;> intro h19_3
    ·refine C4 j5 (C1 (off := 2) (s := 1) (r := false) j3 kz j3 ?_)
     (apply C5 (v := .int _ _) j2; exact Q0; exact C7; exact j5)
     refine rge j6 ?_ ?_ <;> intro h19_7
     ·refine C0 (e := true) j6 (A3 (A1 (wT rfl (A0 (K1 j5 (C1 (off := 0) (s := 1) (r := false) j3 kz j3 ?_))))))
      (apply C5 (v := .str _) j2; exact Q0; exact C7; exact j5)
      refine C1 (off := 2) (s := 1) (r := false) j3 kz j3 ?_
      (apply C5 (v := .int _ _) j2; exact Q0; exact C7; exact j5)
      refine B6 j5 (C1 (off := 3) (s := 1) (r := false) j3 kz j3 ?_)
      (apply C5 (v := .int _ _) j2; exact Q0; exact C7; exact j5)
      refine L6 (cs := [.str _, .int _ _, .int _ _, .int _ _]) j5 (S8 (es := [[.str _, .int _ _, .int _ _, .int _ _]]) j4 kz kb rfl rfl j3 ?_)
      (apply rap (s' := 40) (es := [[.str _, .int _ _, .int _ _, .int _ _]]) rfl rfl; exact Q0; exact j2; (first | rfl | (rw [List.length_map]; omega)); exact j2; exact kz; exact BM; exact AC; exact Q24; exact Q24; exact j3)
      refine S6 j5 (A3 (B7 (A1 (A0 (B6 j5 (C3 j3 ?_ ?_ j3 ?_))))))
      ·exact H1
      ·exact H1
      refine D0 j5 (A3 (D1 ?_))
      first
       | (have eY := V9 (L := L) (Tm := Tm) (i := i) (n := n) hk ⟨h19_3, by omega⟩
          have eG : gOf ((runT L Tm (i + 1)).1.lk.getD k Lk0) = ⟨((runT L Tm (i + 1)).1.lk.getD k Lk0).nm, ((runT L Tm (i + 1)).1.lk.getD k Lk0).hd, (runT L Tm i).1.nx + n, ((runT L Tm (i + 1)).1.lk.getD k Lk0).ex⟩ := by unfold gOf; rw [h19_3]
          rw [eG] at eY
          refine H4 (ih ⟨k + 1, m2 + 1 + 1, m2 + 1 + 1 + 1⟩ ⟨by dsimp only; omega, by dsimp only; omega, by dsimp only; omega, by dsimp only; omega, by dsimp only; omega⟩ (by dsimp only; omega)) (by dsimp only; rw [eY, List.length_append]; (repeat first | exact LE.nil _ | refine LE.unk _ _ ?_ | refine LE.eq _ _ _ rfl ?_)) ?_ (Nat.le_refl _)
          dsimp only
          rw [eY, List.map_append]
          (repeat first | exact E2 | (refine E3 ?_ ?_; exact S4)))
       | (have eN := gC_n (L := L) (Tm := Tm) (i := i) (n := n) hk (fun e => by have e1 := e.1; have e2 := e.2; omega)
          refine H4 (ih ⟨k + 1, bO2, m2 + 1⟩ ⟨by dsimp only; omega, by dsimp only; omega, by dsimp only; omega, by dsimp only; omega, by dsimp only; omega⟩ (by dsimp only; omega)) (by dsimp only; rw [eN]; (repeat first | exact LE.nil _ | refine LE.unk _ _ ?_ | refine LE.eq _ _ _ rfl ?_)) ?_ (Nat.le_refl _)
          dsimp only
          rw [eN]
          (repeat first | exact E2 | (refine E3 ?_ ?_; exact S4)))
     ·refine C0 (e := false) j6 (A3 (A1 (wF rfl (B0 (B7 (A1 (A0 (B6 j5 (C3 j3 ?_ ?_ j3 ?_)))))))))
      ·exact H1
      ·exact H1
      refine D0 j5 (A3 (D1 ?_))
      first
       | (have eY := V9 (L := L) (Tm := Tm) (i := i) (n := n) hk ⟨h19_3, by omega⟩
          have eG : gOf ((runT L Tm (i + 1)).1.lk.getD k Lk0) = ⟨((runT L Tm (i + 1)).1.lk.getD k Lk0).nm, ((runT L Tm (i + 1)).1.lk.getD k Lk0).hd, (runT L Tm i).1.nx + n, ((runT L Tm (i + 1)).1.lk.getD k Lk0).ex⟩ := by unfold gOf; rw [h19_3]
          rw [eG] at eY
          refine H4 (ih ⟨k + 1, m2 + 1 + 1, m2 + 1 + 1 + 1⟩ ⟨by dsimp only; omega, by dsimp only; omega, by dsimp only; omega, by dsimp only; omega, by dsimp only; omega⟩ (by dsimp only; omega)) (by dsimp only; rw [eY, List.length_append]; (repeat first | exact LE.nil _ | refine LE.unk _ _ ?_ | refine LE.eq _ _ _ rfl ?_)) ?_ (Nat.le_refl _)
          dsimp only
          rw [eY, List.map_append]
          (repeat first | exact E2 | (refine E3 ?_ ?_; exact S4)))
       | (have eN := gC_n (L := L) (Tm := Tm) (i := i) (n := n) hk (fun e => by have e1 := e.1; have e2 := e.2; omega)
          refine H4 (ih ⟨k + 1, bO2, m2 + 1⟩ ⟨by dsimp only; omega, by dsimp only; omega, by dsimp only; omega, by dsimp only; omega, by dsimp only; omega⟩ (by dsimp only; omega)) (by dsimp only; rw [eN]; (repeat first | exact LE.nil _ | refine LE.unk _ _ ?_ | refine LE.eq _ _ _ rfl ?_)) ?_ (Nat.le_refl _)
          dsimp only
          rw [eN]
          (repeat first | exact E2 | (refine E3 ?_ ?_; exact S4)))
    ·refine C4 j5 (A4 j3 (A4 j3 (A4 j3 (C0 (e := false) j6 (A3 (A1 (wF rfl (B0 (B7 (A1 (A0 (B6 j5 ?_))))))))))))
     refine C3 j3 ?_ ?_ j3 ?_
     ·exact H1
     ·exact H1
     refine D0 j5 (A3 (D1 ?_))
     first
      | (have eY := V9 (L := L) (Tm := Tm) (i := i) (n := n) hk ⟨h19_3, by omega⟩
         have eG : gOf ((runT L Tm (i + 1)).1.lk.getD k Lk0) = ⟨((runT L Tm (i + 1)).1.lk.getD k Lk0).nm, ((runT L Tm (i + 1)).1.lk.getD k Lk0).hd, (runT L Tm i).1.nx + n, ((runT L Tm (i + 1)).1.lk.getD k Lk0).ex⟩ := by unfold gOf; rw [h19_3]
         rw [eG] at eY
         refine H4 (ih ⟨k + 1, m2 + 1 + 1, m2 + 1 + 1 + 1⟩ ⟨by dsimp only; omega, by dsimp only; omega, by dsimp only; omega, by dsimp only; omega, by dsimp only; omega⟩ (by dsimp only; omega)) (by dsimp only; rw [eY, List.length_append]; (repeat first | exact LE.nil _ | refine LE.unk _ _ ?_ | refine LE.eq _ _ _ rfl ?_)) ?_ (Nat.le_refl _)
         dsimp only
         rw [eY, List.map_append]
         (repeat first | exact E2 | (refine E3 ?_ ?_; exact S4)))
      | (have eN := gC_n (L := L) (Tm := Tm) (i := i) (n := n) hk (fun e => by have e1 := e.1; have e2 := e.2; omega)
         refine H4 (ih ⟨k + 1, bO2, m2 + 1⟩ ⟨by dsimp only; omega, by dsimp only; omega, by dsimp only; omega, by dsimp only; omega, by dsimp only; omega⟩ (by dsimp only; omega)) (by dsimp only; rw [eN]; (repeat first | exact LE.nil _ | refine LE.unk _ _ ?_ | refine LE.eq _ _ _ rfl ?_)) ?_ (Nat.le_refl _)
         dsimp only
         rw [eN]
         (repeat first | exact E2 | (refine E3 ?_ ?_; exact S4)))
   ·refine A3 (A1 (wF rfl (E5 (E6 (D7 (C8 (B7 (A1 (A0 (B6 j5 (C3 j3 ?_ ?_ j3 ?_)))))))))))
    ·exact H1
    ·exact H1
    refine D0 j5 (A3 (D1 ?_))
    have eE : gC L Tm i n k = gB L Tm i (n + 1) := gC_end (by omega)
    rw [eE]
    exact H4 (ih1 ⟨n + 1, bO2, m2⟩ ⟨by dsimp only; omega, by dsimp only; omega, by dsimp only; omega, by dsimp only; omega, by dsimp only; omega⟩ (by dsimp only; omega)) (by (repeat first | exact LE.nil _ | refine LE.unk _ _ ?_ | refine LE.eq _ _ _ rfl ?_ | refine LE.eq _ _ _ (by show V.int _ _ = V.int _ _; refine congrArg (V.int .i64) ?_; (try dsimp only); omega) ?_)) (by (repeat first | exact E2 | (refine E3 ?_ ?_; exact S4))) (Nat.le_refl _)
  ·refine A3 (A1 (wF rfl (E5 (E6 (D7 (C8 (A1 (A0 ?_))))))))
   (apply F9 (vs := [.int _ _, .int _ _, _, _]) j2; exact Q0; exact C7; rfl; exact kb; rfl; exact j3)
   (apply D4 (u := .agg [.int _ _, .int _ _, _, _]) j3; exact Q0; exact C7; rfl; rfl; rfl; rfl; exact kb; rfl; exact j2)
   refine A3 (B7 (A1 (A0 (B6 j5 (C3 j3 ?_ ?_ j3 ?_)))))
   ·exact H1
   ·exact H1
   refine D0 j5 (A3 (D1 ?_))
   have e : n = ((runT L Tm (i + 1)).1.nx - (runT L Tm i).1.nx).toNat := by omega
   subst e
   exact H4 (ih0 ⟨i + 1, false, bO1, m1⟩ ⟨by dsimp only; omega, by dsimp only; omega, by dsimp only; omega, by dsimp only; omega⟩ (by dsimp only; omega)) (by (repeat first | exact LE.nil _ | refine LE.unk _ _ ?_ | refine LE.eq _ _ _ rfl ?_)) (by (repeat first | exact E2 | (refine E3 ?_ ?_; exact S4))) (Nat.le_refl _)
 ·refine A3 (A1 (wF rfl (E5 (E6 (D7 (C8 (A1 (A2 (A0 (K1 j5 (S6 j5 (D0 j5 ?_))))))))))))
  refine A3 (A1 (A9 ?_))
  obtain rfl : i = L.length := by omega
  exact P9 [bO] (A5 rfl (A5 rfl A8)) (SnapL.cons _ _ _ _ (.one _ _ (H7 ((gA L Tm L.length).map Gr.T) (List.mem_singleton.2 rfl) (by exact Q0) (rowsGr _).symm (List.length_map ..).symm)) (SnapL.cons _ _ _ _ (.one _ _ (.int _ _)) SnapL.nil))
open Go.V
set_option linter.unusedVariables false
set_option linter.unusedSimpArgs false
set_option maxRecDepth 20000
set_option maxHeartbeats 4000000
def bV (b : Int) : List V := [.int .u8 b]
theorem takeAll {l : List Int} {m : Nat} (h : l.length = m) : (((l.map bV).drop 0).take m) = l.map fun b => [.int .u8 b] := by
 rw [List.drop_zero, List.take_of_length_le (by simp; omega)]; rfl
theorem setMap {l : List Int} {i : Nat} {x : Int} : (l.map bV).set i (bV x) = (l.set i x).map bV := by
 rw [List.map_set]
theorem p37 (x : Int) (m : Nat) (hm : m ≤ 8) : ∃ s : ByteArray, s.size = m ∧ Pure En 115 [.one (.int .i64 x), .one (.int .i64 m)] [.one (.str s)] := by
 refine Pure.of_wpX Try.func115 rfl kb ?_
 refine A2 (A0 (raS j5 (A3 (A1 (A2 (A0 (B6 j5 (rmk (s' := 1) j6 kz ?_ ?_ j3 ?_))))))))
 ·exact Q4
 ·exact Q4
 refine S6 j5 (A3 (A1 (A2 (A2 (A0 (B6 j5 (S5 j3 ?_ ?_ j3 ?_)))))))
 ·exact Q4
 ·exact Q4
 refine D0 j5 (A3 (A1 (B3 (F0 ?_))))
 refine E9 (fun (a : Int × Int × List Int) => [.int .i64 a.2.1, .int .i64 m, .unk, .unk, .unk, .view 0 0 m, .int .i64 (a.1 - 1)]) (fun (a : Int × Int × List Int) => hp [(0, ⟨a.2.2.map bV, 1, 5⟩)]) (fun (a : Int × Int × List Int) => 1) (fun (a : Int × Int × List Int) => a.2.2.length = m ∧ a.1 ≤ m) (fun (a : Int × Int × List Int) => a.1.toNat) ((m : Int), x, List.replicate m 0) ?_ ?_ ?_ ?_ ?_
 ·exact ⟨List.length_replicate .., Int.le_refl _⟩
 ·(repeat first | exact LE.nil _ | refine LE.unk _ _ ?_ | refine LE.eq _ _ _ rfl ?_)
 ·(repeat first | exact E2 | (refine E3 ?_ ?_; (first | exact Q0 | (dsimp only; rw [List.map_replicate]; rfl) | (dsimp only; rw [List.map_set, Nat.zero_add]; rfl))))
 ·exact Nat.le_refl _
 intro ⟨i, y, L⟩ hI ih
 dsimp only at hI ⊢
 refine E8 (A2 (A2 (A0 (B6 j5 ?_))))
 refine rge j6 ?_ ?_ <;> intro h3_1
 ·refine A3 (A1 (wT rfl (B0 (A1 (A2 (B3 (A2 (A0 (K1 j5 (B6 j5 (B6 j5 (rcv j7 ?_))))))))))))
  (apply T8 j4; exact Q0; rfl; exact Q4; exact Q4; exact j3)
  (apply D4 j3; rfl; exact mapGet bV 0 (show 0 + (i - 1 : Int).toNat < L.length by omega); rfl; rfl; rfl; rfl; exact kb; rfl; exact j2)
  refine A3 (A1 (A0 (B6 j5 (rshr j3 ?_ j3 ?_))))
  ·exact Q4
  refine D0 j5 (A3 (B7 (A1 (A0 (B6 j5 (S5 j3 ?_ ?_ j3 ?_))))))
  ·exact Q4
  ·exact Q4
  refine D0 j5 (A3 (D1 ?_))
  exact H4 (ih (i - 1, _, L.set (i - 1 : Int).toNat (IntKind.u8.wrap y)) ⟨by dsimp only; rw [List.length_set]; exact hI.1, by dsimp only; omega⟩ (by dsimp only; omega)) (by (repeat first | exact LE.nil _ | refine LE.unk _ _ ?_ | refine LE.eq _ _ _ rfl ?_)) (by (repeat first | exact E2 | (refine E3 ?_ ?_; (first | exact Q0 | (dsimp only; rw [List.map_replicate]; rfl) | (dsimp only; rw [List.map_set, Nat.zero_add]; rfl))))) (Nat.le_refl _)
 ·refine A3 (A1 (wF rfl (E5 (E6 (D7 (C8 (A1 (A2 (A0 (K1 j5 ?_))))))))))
  (apply rsg j4; (apply K0 rfl; exact Q0; (first | exact Nat.le_refl _ | omega | (simp; omega)); rfl); (intro s e; cases e); exact takeAll hI.1; exact j3)
  refine raS j5 (A3 (A1 (A9 ?_)))
  exact ⟨strOf L, by rw [P4]; exact hI.1, fin rfl rfl⟩
theorem num_ex (x : Int) (m : Nat) : ∃ s : ByteArray, s.size = m ∧ (m ≤ 8 → Pure En 115 [.one (.int .i64 x), .one (.int .i64 m)] [.one (.str s)]) := by
 by_cases h : m ≤ 8
 ·obtain ⟨s, h1, h2⟩ := p37 x m h
  exact ⟨s, h1, fun _ => h2⟩
 ·exact ⟨⟨(List.replicate m 0).toArray⟩, by simp [ByteArray.size], fun h' => absurd h' h⟩
noncomputable def Nm (x : Int) (m : Nat) : ByteArray := Classical.choose (num_ex x m)
noncomputable def atx (a : An) : ByteArray := Nm a.kd 1 ++ Nm a.tk 3 ++ Nm (a.hd + 1) 2 ++ Nm a.ex 4
open Go.V
set_option linter.unusedVariables false
set_option linter.unusedSimpArgs false
set_option maxRecDepth 20000
set_option maxHeartbeats 4000000
open Go.V
set_option linter.unusedVariables false
set_option linter.unusedSimpArgs false
set_option maxRecDepth 20000
set_option maxHeartbeats 4000000
open Go.V
set_option linter.unusedVariables false
set_option linter.unusedSimpArgs false
set_option maxRecDepth 20000
set_option maxHeartbeats 4000000
theorem rowsBf (fr : Bool) (B : List Int) : ((B.map bT).map fun r => r.map (T.toV fr)) = B.map bV := by rw [List.map_map]; rfl
theorem snapB {h : Heap} {ids : List Nat} {r : Bool} {id m : Nat} {B : List Int} (hid : id ∈ ids) (hb : h id = some ⟨B.map bV, 1, 5⟩) (hm : m = B.length) : Snap h ids r (.view id 0 m) (.sl true (B.map bT)) :=
 H7 (B.map bT) hid hb (rowsBf true B).symm (by rw [List.length_map]; exact hm)
theorem wrap_nn (a : Int) : 0 ≤ IntKind.u64.wrap a := by
 show 0 ≤ a % (2 ^ 64 : Int)
 exact Int.emod_nonneg _ (by decide)
def bt8 (x i : Int) : Int := IntKind.u8.wrap (x.fdiv (2 ^ (min (IntKind.u64.wrap (8 * i)).toNat IntKind.i64.bits)))
structure NbS where
 i : Int
 ln : Nat
 R : List Int
 id : Nat
 m : Nat
 g : Heap
structure NbI (m n : Nat) (h0 : Heap) (a : NbS) : Prop where
 i : -1 ≤ a.i ∧ a.i ≤ (m : Int) - 1
 ln : a.ln = ((m : Int) - 1 - a.i).toNat
 lR : a.R.length = a.ln
 g : a.g a.id = some ⟨a.R.map bV, 1, 5⟩
 id : n ≤ a.id ∧ a.id < a.m
 ch : Ch h0 a.g
theorem s139 (x : Int) (m : Nat) (hm : m ≤ 8) : ∃ R : List Int, R.length = m ∧ Pure En 139 [.one (.int .i64 x), .one (.int .i64 m)] [.one (.sl true (R.map bT))] := by
 refine Pure.of_wpX Try.func139 rfl kb ?_
 refine A2 (A0 (AA j5 (A3 (A1 (A2 (A0 (S8 (es := []) j4 kz kb rfl rfl j3 (S6 j5 (A3 (A1 (A2 (A2 ?_))))))))))))
 refine A0 (B6 j5 (S5 j3 ?_ ?_ j3 ?_))
 ·exact Q35
 ·exact Q35
 refine D0 j5 (A3 (A1 (B3 (F0 ?_))))
 refine wlG fun g0 hg0 => ?_
 refine E9 (fun (a : NbS) => [.int .i64 x, .unk, .unk, .unk, .unk, .view a.id 0 a.ln, .int .i64 a.i]) (fun (a : NbS) => a.g) (fun (a : NbS) => a.m) (fun (a : NbS) => NbI m 0 (fun _ => none) a) (fun (a : NbS) => (a.i + 1).toNat) ⟨(m : Int) - 1, 0, [], 0, 0 + 1, g0⟩ ?_ ?_ ?_ ?_ ?_
 ·refine ⟨by dsimp only; omega, by dsimp only; omega, rfl, ?_, by dsimp only; omega, ?_⟩
  ·dsimp only; rw [hg0]; exact Q0
  ·dsimp only; rw [hg0]; (repeat first | exact Ch.refl _ | refine Ch.upd ?_ | refine Ch.app ?_ | assumption)
 ·(repeat first | exact LE.nil _ | refine LE.unk _ _ ?_ | refine LE.eq _ _ _ rfl ?_)
 ·exact LessH.refl _
 ·exact Nat.le_refl _
 intro ⟨i, ln, R, id, m1, g⟩ hI ih
 have q1 := hI.i
 have q2 := hI.ln
 have q3 := hI.lR
 have q4 := hI.g
 have q5 := hI.id
 dsimp only at q1 q2 q3 q4 q5 ⊢
 refine E8 (A2 (A2 (A0 (B6 j5 ?_))))
 refine rge j6 ?_ ?_ <;> intro h3_1
 ·refine A3 (A1 (wT rfl (B0 (A1 (A2 (B3 (A0 (K1 j5 (B6 j5 (B6 j5 (rmulF j3 ?_ ?_ j3 ?_)))))))))))
  ·exact Q35
  ·exact Q35
  refine rcv j7 (rshr j3 ?_ j3 ?_)
  ·exact Q35
  refine rcv j7 (S8 (es := [[.int _ _]]) j4 kz kb rfl rfl j3 ?_)
  (apply rap (s' := 1) (es := [[.int _ _]]) rfl rfl; exact Q0; exact j2; (first | rfl | omega | (rw [List.length_map]; omega)); exact j2; exact kz; exact BM; exact AC; exact Q32; exact Q32; exact j3)
  refine S6 j5 (A3 (B7 (A1 ?_)))
  refine Y1 fun G hG => ?_
  refine A0 (B6 j5 (S5 j3 ?_ ?_ j3 ?_))
  ·exact Q35
  ·exact Q35
  refine D0 j5 (A3 (D1 ?_))
  refine H4 (ih ⟨i - 1, ln + 1, R ++ [bt8 x i], m1 + 1, m1 + 1 + 1, G⟩ ⟨by dsimp only; omega, by dsimp only; omega, by dsimp only; rw [List.length_append, q3]; rfl, ?_, by dsimp only; omega, ?_⟩ (by dsimp only; omega)) (by (repeat first | exact LE.nil _ | refine LE.unk _ _ ?_ | refine LE.eq _ _ _ rfl ?_)) (LessH.refl _) (Nat.le_refl _)
  ·dsimp only; rw [hG, List.map_append]; exact Q0
  ·dsimp only; refine hI.ch.trans ?_; rw [hG]; (repeat first | exact Ch.refl _ | refine Ch.upd ?_ | refine Ch.app ?_ | assumption)
 ·refine A3 (A1 (wF rfl (E5 (E6 (D7 (C8 (A1 (A2 (A0 (K1 j5 (S6 j5 (A3 ?_))))))))))))
  refine A1 (A9 ?_)
  refine ⟨R, by omega, P9 (xs := [.view id 0 ln]) [id] rfl (.cons _ _ _ _ (.one _ _ (snapB (List.mem_singleton.2 rfl) q4 q3.symm)) .nil)⟩
theorem nb_ex (x : Int) (m : Nat) : ∃ R : List Int, R.length = m ∧ (m ≤ 8 → Pure En 139 [.one (.int .i64 x), .one (.int .i64 m)] [.one (.sl true (R.map bT))]) := by
 by_cases h : m ≤ 8
 ·obtain ⟨s, h1, h2⟩ := s139 x m h
  exact ⟨s, h1, fun _ => h2⟩
 ·exact ⟨List.replicate m 0, List.length_replicate .., fun h' => absurd h' h⟩
noncomputable def Nb (x : Int) (m : Nat) : List Int := Classical.choose (nb_ex x m)
open Go.V
set_option linter.unusedVariables false
set_option linter.unusedSimpArgs false
set_option maxRecDepth 20000
set_option maxHeartbeats 4000000
def isB (z : List (List V)) : Prop := ∃ R : List Int, z = R.map bV
@[reducible] noncomputable def nbL (x : Int) (k : Nat) : List (List V) := ((Nb x k).map bT).map (·.map (T.toV true))
@[reducible] def strL (s : ByteArray) : List (List V) := s.data.toList.map fun b => [V.int .u8 (b.toNat : Int)]
structure BtS where
 i : Nat
 ln : Nat
 id : Nat
 m : Nat
 g : Heap
structure BtI (B : Nat) (tb : Blk) (a : BtS) : Prop where
 ln : a.ln ≤ B
 R : ∃ R : List (List V), a.g a.id = some ⟨R, 1, 5⟩ ∧ isB R ∧ R.length = a.ln
 g0 : a.g 0 = some tb
 id : 1 ≤ a.id ∧ a.id < a.m
open Go.V
set_option linter.unusedVariables false
set_option linter.unusedSimpArgs false
set_option maxRecDepth 20000
set_option maxHeartbeats 4000000
open Go.V
set_option linter.unusedVariables false
set_option linter.unusedSimpArgs false
set_option maxRecDepth 20000
set_option maxHeartbeats 4000000
open Go.V
set_option linter.unusedVariables false
set_option linter.unusedSimpArgs false
set_option maxRecDepth 20000
set_option maxHeartbeats 4000000
open Go.V
set_option linter.unusedVariables false
set_option linter.unusedSimpArgs false
set_option maxRecDepth 20000
set_option maxHeartbeats 4000000
abbrev tbV (t : Tb) (x : Nl) : List V := [.int .i64 t.tm, .int .i64 t.nx, T.toV true (nlT x.2.1 (lksN x.1 t.lk)), T.toV true (nlT x.2.2 (t.sn.map Sn.T))]
theorem tbV_cell {a b : Int} {c d : Bool} {rs ss : List (List V.T)} {fr f2 : Bool} : (V.agg [.int .i64 a, .int .i64 b, T.toV fr (nlT c rs), T.toV f2 (nlT d ss)]).cells.all V.cell = true := by
 show ((T.toV fr (nlT c rs)).cell && ((T.toV f2 (nlT d ss)).cell && true)) = true
 rw [P3, P3]; rfl
theorem nilAll (t : Tb) : NilM t (fun _ => true, true, true) := ⟨nofun, nofun, nofun⟩
theorem lenN {t : Tb} {x : Nl} {fr : Bool} (h : NilM t x) : lenV (T.toV fr (nlT x.2.1 (lksN x.1 t.lk))) = some t.lk.length := by
 obtain ⟨N, b1, b2⟩ := x
 cases b1 with
 | true => exact congrArg some (L3 N t.lk)
 | false => have := h.l rfl; rw [this]; rfl
end Go.Proofs.Ytknnniaoboaghaa
