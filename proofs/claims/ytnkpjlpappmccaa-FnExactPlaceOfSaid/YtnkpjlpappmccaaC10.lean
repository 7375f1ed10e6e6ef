import Derived.Test.YtnkpjlpappmccaaC9
namespace Go.Proofs.Ytnkpjlpappmccaa
open Go.V
set_option linter.unusedVariables false
set_option linter.unusedSimpArgs false

/-! The plain law: both readers read the same. -/
def cur (s : ByteArray) (o : Nat) : RS := (s.extract o s.size, false)
theorem ext_ext (s : ByteArray) (o a b : Nat) (h : o + b ≤ s.size) : (s.extract o s.size).extract a b = s.extract (o + a) (o + b) := by
  rw [ByteArray.extract_extract, Nat.min_eq_left h]
theorem cur_size (s : ByteArray) (o : Nat) : (cur s o).1.size = s.size - o := by unfold cur; exact size_extract _ _ _ (Nat.le_refl _)
theorem take_cur {s : ByteArray} {o k : Nat} (h : o + k ≤ s.size) : takeS (cur s o) k = (s.extract o (o + k), cur s (o + k)) := by
  have hs := cur_size s o
  rw [take_ok rfl (by rw [hs]; omega), Int.toNat_natCast]
  have e1 : (cur s o).1.extract 0 k = s.extract o (o + k) := by unfold cur; rw [ext_ext _ _ _ _ h]; rfl
  have e2 : (cur s o).1.extract k (cur s o).1.size = s.extract (o + k) s.size := by
    rw [hs]; unfold cur
    rw [ext_ext _ _ _ _ (by omega)]
    congr 1; omega
  rw [e1, e2]; rfl
theorem take_cur_bad {s : ByteArray} {o k : Nat} (h : s.size < o + k) (ho : o ≤ s.size) : (takeS (cur s o) k).2.2 = true := by
  have hs := cur_size s o
  rw [take_long (by rw [hs]; omega)]
theorem take_bad2 {x : RS} {k : Int} (h : x.2 = true) : (takeS x k).2.2 = true := by rw [take_bad h]
theorem num_bad2 {x : RS} {k : Int} (h : x.2 = true) : (numS x k).2.2 = true := take_bad2 h
theorem num_cur {s : ByteArray} {o k : Nat} (h : o + k ≤ s.size) : numS (cur s o) k = (be s o k, cur s (o + k)) := by
  unfold numS
  rw [take_cur h]
  have e : (s.extract o (o + k)).size = k := by rw [size_extract _ _ _ h]; omega
  simp only [e]
  rw [be_extract _ _ _ _ _ h (by omega)]; rfl
theorem num_cur_bad {s : ByteArray} {o k : Nat} (h : s.size < o + k) (ho : o ≤ s.size) : (numS (cur s o) k).2.2 = true := take_cur_bad h ho
theorem be_1 (s : ByteArray) (o : Nat) : be s o 1 = bt s o := by simp [be]

theorem rdS_cur {s : ByteArray} {i : Nat} (h : 14 + 13 * i ≤ s.size) : rdS (cur s (1 + 13 * i)) = (rdOf s i, cur s (14 + 13 * i)) := by
  have e1 : numS (cur s (1 + 13 * i)) 1 = (be s (1 + 13 * i) 1, cur s (2 + 13 * i)) := by
    have := num_cur (s := s) (o := 1 + 13 * i) (k := 1) (by omega)
    rw [show 1 + 13 * i + 1 = 2 + 13 * i by omega] at this; exact this
  have e2 : numS (cur s (2 + 13 * i)) 4 = (be s (2 + 13 * i) 4, cur s (6 + 13 * i)) := by
    have := num_cur (s := s) (o := 2 + 13 * i) (k := 4) (by omega)
    rw [show 2 + 13 * i + 4 = 6 + 13 * i by omega] at this; exact this
  have e3 : takeS (cur s (6 + 13 * i)) 8 = (s.extract (6 + 13 * i) (14 + 13 * i), cur s (14 + 13 * i)) := by
    have := take_cur (s := s) (o := 6 + 13 * i) (k := 8) (by omega)
    rw [show 6 + 13 * i + 8 = 14 + 13 * i by omega] at this; exact this
  have hc := chunk_size s i h
  have f1 : bt (chunk s i) 0 = be s (1 + 13 * i) 1 := by
    rw [be_1]; unfold chunk; rw [bt_extract _ _ _ _ h (by omega)]; rfl
  have f2 : be (chunk s i) 1 4 = be s (2 + 13 * i) 4 := by
    unfold chunk; rw [be_extract _ _ _ _ _ h (by omega), show 1 + 13 * i + 1 = 2 + 13 * i by omega]
  have f3 : (chunk s i).extract 5 (chunk s i).size = s.extract (6 + 13 * i) (14 + 13 * i) := by
    rw [hc]; unfold chunk
    rw [ByteArray.extract_extract, show 1 + 13 * i + 5 = 6 + 13 * i by omega, show min (1 + 13 * i + 13) (14 + 13 * i) = 14 + 13 * i by omega]
  simp only [rdS, e1, e2, e3, rdOf, f1, f2, f3]
theorem rdS_bad {x : RS} (h : x.2 = true) : (rdS x).2.2 = true := take_bad2 (num_bad2 (num_bad2 h))
theorem rdS_cur_bad {s : ByteArray} {i : Nat} (h : s.size < 14 + 13 * i) (ho : 1 + 13 * i ≤ s.size) : (rdS (cur s (1 + 13 * i))).2.2 = true := by
  unfold rdS
  rcases Nat.lt_or_ge s.size (2 + 13 * i) with h1 | h1
  · exact take_bad2 (num_bad2 (num_cur_bad (k := 1) (by omega) ho))
  · have e1 : numS (cur s (1 + 13 * i)) 1 = (be s (1 + 13 * i) 1, cur s (2 + 13 * i)) := by
      have := num_cur (s := s) (o := 1 + 13 * i) (k := 1) (by omega)
      rw [show 1 + 13 * i + 1 = 2 + 13 * i by omega] at this; exact this
    simp only [e1]
    rcases Nat.lt_or_ge s.size (6 + 13 * i) with h2 | h2
    · exact take_bad2 (num_cur_bad (k := 4) (by omega) h1)
    · have e2 : numS (cur s (2 + 13 * i)) 4 = (be s (2 + 13 * i) 4, cur s (6 + 13 * i)) := by
        have := num_cur (s := s) (o := 2 + 13 * i) (k := 4) (by omega)
        rw [show 2 + 13 * i + 4 = 6 + 13 * i by omega] at this; exact this
      simp only [e2]
      exact take_cur_bad (k := 8) (by omega) h2
theorem rdsS_cur {s : ByteArray} (i : Nat) (h : 1 + 13 * i ≤ s.size) : rdsS (cur s 1) i = (rds s i, cur s (1 + 13 * i)) := by
  induction i with
  | zero => rfl
  | succ i ih =>
    have e := ih (by omega)
    have e2 := rdS_cur (s := s) (i := i) (by omega)
    simp only [rdsS, e, e2, rds_succ]
    rw [show 14 + 13 * i = 1 + 13 * (i + 1) by omega]
theorem rdsS_bad {s : ByteArray} (i : Nat) (h : s.size < 1 + 13 * i) (h1 : 1 ≤ s.size) : (rdsS (cur s 1) i).2.2 = true := by
  induction i with
  | zero => omega
  | succ i ih =>
    show (rdS (rdsS (cur s 1) i).2).2.2 = true
    rcases Nat.lt_or_ge s.size (1 + 13 * i) with h2 | h2
    · exact rdS_bad (ih h2)
    · rw [rdsS_cur i h2]
      exact rdS_cur_bad (by omega) h2

theorem reqS_bad {x : RS} (h : x.2 = true) : (reqS x).2.2 = true := take_bad2 (num_bad2 (num_bad2 (num_bad2 (num_bad2 (num_bad2 h)))))
theorem siz_bad {x : RS} (h : x.2 = true) : (sizS x 1).2.2 = true := take_bad2 (num_bad2 h)
theorem num_cur' {s : ByteArray} {o k o' : Nat} (h : o + k ≤ s.size) (e : o + k = o') : numS (cur s o) k = (be s o k, cur s o') := by rw [num_cur h, e]
/-- A request that is read from place o on. -/
theorem reqS_cur {s : ByteArray} {o : Nat} (h : o + 7 ≤ s.size) (h2 : o + 7 + bt s (o + 6) ≤ s.size) :
    reqS (cur s o) = (⟨bt s o, be s (o + 1) 2, bt s (o + 3), be s (o + 4) 2, s.extract (o + 7) (o + 7 + (bt s (o + 6)).toNat)⟩, cur s (o + 7 + (bt s (o + 6)).toNat)) := by
  have b0 := bt_0 s (o + 6)
  have e1 : numS (cur s o) 1 = (be s o 1, cur s (o + 1)) := num_cur' (k := 1) (by omega) (by omega)
  have e2 : numS (cur s (o + 1)) 2 = (be s (o + 1) 2, cur s (o + 3)) := num_cur' (k := 2) (by omega) (by omega)
  have e3 : numS (cur s (o + 3)) 1 = (be s (o + 3) 1, cur s (o + 4)) := num_cur' (k := 1) (by omega) (by omega)
  have e4 : numS (cur s (o + 4)) 2 = (be s (o + 4) 2, cur s (o + 6)) := num_cur' (k := 2) (by omega) (by omega)
  have e5 : numS (cur s (o + 6)) 1 = (be s (o + 6) 1, cur s (o + 7)) := num_cur' (k := 1) (by omega) (by omega)
  have e6 : takeS (cur s (o + 7)) (bt s (o + 6)) = (s.extract (o + 7) (o + 7 + (bt s (o + 6)).toNat), cur s (o + 7 + (bt s (o + 6)).toNat)) := by
    have := take_cur (s := s) (o := o + 7) (k := (bt s (o + 6)).toNat) (by omega)
    rw [show (((bt s (o + 6)).toNat : Nat) : Int) = bt s (o + 6) by omega] at this
    exact this
  simp only [reqS, sizS, e1, e2, e3, e4, e5, be_1, e6]
theorem reqS_cur_bad {s : ByteArray} {o : Nat} (ho : o ≤ s.size) (h : ¬ (o + 7 ≤ s.size ∧ o + 7 + bt s (o + 6) ≤ s.size)) : (reqS (cur s o)).2.2 = true := by
  have b0 := bt_0 s (o + 6)
  unfold reqS
  rcases Nat.lt_or_ge s.size (o + 1) with h1 | h1
  · exact siz_bad (num_bad2 (num_bad2 (num_bad2 (num_cur_bad (k := 1) (by omega) ho))))
  have e1 : numS (cur s o) 1 = (be s o 1, cur s (o + 1)) := num_cur' (k := 1) (by omega) (by omega)
  simp only [e1]
  rcases Nat.lt_or_ge s.size (o + 3) with h3 | h3
  · exact siz_bad (num_bad2 (num_bad2 (num_cur_bad (k := 2) (by omega) h1)))
  have e2 : numS (cur s (o + 1)) 2 = (be s (o + 1) 2, cur s (o + 3)) := num_cur' (k := 2) (by omega) (by omega)
  simp only [e2]
  rcases Nat.lt_or_ge s.size (o + 4) with h4 | h4
  · exact siz_bad (num_bad2 (num_cur_bad (k := 1) (by omega) h3))
  have e3 : numS (cur s (o + 3)) 1 = (be s (o + 3) 1, cur s (o + 4)) := num_cur' (k := 1) (by omega) (by omega)
  simp only [e3]
  rcases Nat.lt_or_ge s.size (o + 6) with h6 | h6
  · exact siz_bad (num_cur_bad (k := 2) (by omega) h4)
  have e4 : numS (cur s (o + 4)) 2 = (be s (o + 4) 2, cur s (o + 6)) := num_cur' (k := 2) (by omega) (by omega)
  simp only [e4, sizS]
  rcases Nat.lt_or_ge s.size (o + 7) with h7 | h7
  · exact take_bad2 (num_cur_bad (k := 1) (by omega) h6)
  have e5 : numS (cur s (o + 6)) 1 = (be s (o + 6) 1, cur s (o + 7)) := num_cur' (k := 1) (by omega) (by omega)
  simp only [e5, be_1]
  have := take_cur_bad (s := s) (o := o + 7) (k := (bt s (o + 6)).toNat) (by omega) h7
  rw [show (((bt s (o + 6)).toNat : Nat) : Int) = bt s (o + 6) by omega] at this
  exact this
end Go.Proofs.Ytnkpjlpappmccaa
