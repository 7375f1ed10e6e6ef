import Derived.Test.YtnkpjlpappmccaaC10
namespace Go.Proofs.Ytnkpjlpappmccaa
open Go.V
set_option linter.unusedVariables false
set_option linter.unusedSimpArgs false

theorem cur_0 (s : ByteArray) : cur s 0 = (s, false) := by unfold cur; simp
theorem head_eq {s : ByteArray} (h : 1 ≤ s.size) : numS (s, false) 1 = (bt s 0, cur s 1) := by
  have := num_cur (s := s) (o := 0) (k := 1) (by omega)
  rw [cur_0, be_1] at this; exact this
theorem head_bad {s : ByteArray} (h : s.size = 0) : numS (s, false) 1 = (0, (s, true)) := by
  unfold numS
  rw [take_long (show (1 : Int) > s.size by omega)]
  rfl
theorem tail_eq {s : ByteArray} (h1 : bt s 0 ≠ 0) : rqTail s = s.extract (1 + 13 * cnt s) s.size := by
  have b0 := bt_0 s 0
  unfold rqTail cnt
  congr 1; omega
theorem tail_has {s : ByteArray} (h1 : bt s 0 ≠ 0) : hasRq (rqTail s) ↔ (1 + 13 * cnt s + 7 ≤ s.size ∧ (s.size : Int) = (1 + 13 * cnt s : Nat) + 7 + bt s (1 + 13 * cnt s + 6)) := by
  rw [tail_eq h1]
  unfold hasRq
  rw [size_extract _ _ _ (Nat.le_refl _)]
  constructor
  · rintro ⟨g1, g2⟩
    rw [bt_extract _ _ _ _ (Nat.le_refl _) (by omega)] at g2
    exact ⟨by omega, by omega⟩
  · rintro ⟨g1, g2⟩
    rw [bt_extract _ _ _ _ (Nat.le_refl _) (by omega)]
    exact ⟨by omega, by omega⟩
theorem tail_rq {s : ByteArray} (h1 : bt s 0 ≠ 0) (h : 1 + 13 * cnt s + 7 ≤ s.size) : rqOf (rqTail s) = ⟨bt s (1 + 13 * cnt s), be s (1 + 13 * cnt s + 1) 2, bt s (1 + 13 * cnt s + 3), be s (1 + 13 * cnt s + 4) 2, s.extract (1 + 13 * cnt s + 7) s.size⟩ := by
  rw [tail_eq h1]
  unfold rqOf
  rw [bt_extract _ _ _ _ (Nat.le_refl _) (by omega), bt_extract _ _ _ _ (Nat.le_refl _) (by omega), be_extract _ _ _ _ _ (Nat.le_refl _) (by omega), be_extract _ _ _ _ _ (Nat.le_refl _) (by omega), size_extract _ _ _ (Nat.le_refl _), ext_ext _ _ _ _ (by omega)]
  congr 2; omega
theorem done_cur {s : ByteArray} {e : Nat} (he : e ≤ s.size) : doneS (cur s e) ↔ e = s.size := by
  have hs := cur_size s e
  unfold doneS
  constructor
  · rintro ⟨_, h⟩
    rw [h] at hs
    have : (⟨#[]⟩ : ByteArray).size = 0 := rfl
    omega
  · rintro rfl
    refine ⟨rfl, ?_⟩
    have h0 : (cur s s.size).1.size = 0 := by omega
    generalize (cur s s.size).1 = x at h0 ⊢
    obtain ⟨d⟩ := x
    have : d.size = 0 := h0
    rw [Array.eq_empty_of_size_eq_zero this]

/-- What the program's reader asks of a text, of the text's own places. -/
theorem okR_iff {s : ByteArray} (h : 1 ≤ s.size) : okR s ↔ (bt s 0 ≠ 0 ∧ 1 + 13 * (bt s 0 - 1) ≤ s.size ∧ hasRq (rqTail s) ∧ btOK (rqOf (rqTail s)) (rds s (cnt s))) := by
  have b0 := bt_0 s 0
  have hx : x1 s = cur s 1 := by unfold x1; rw [head_eq h]
  have hc : cI s = bt s 0 - 1 := by unfold cI; rw [head_eq h]
  have hcn : (cI s).toNat = cnt s := by rw [hc]; rfl
  unfold okR rqI rsI
  rw [hcn, hx]
  have bb := bt_0 s (1 + 13 * cnt s + 6)
  have hcc : bt s 0 ≠ 0 → bt s 0 - 1 = cnt s := by unfold cnt; omega
  constructor
  · rintro ⟨g1, g2, g3, g4⟩
    have z : bt s 0 ≠ 0 := by omega
    have hcc := hcc z
    have h1 : 1 + 13 * cnt s ≤ s.size := by
      rcases Nat.lt_or_ge s.size (1 + 13 * cnt s) with hlt | hge
      · exact absurd (g3.1.symm.trans (reqS_bad (rdsS_bad _ hlt h))) Bool.false_ne_true
      · exact hge
    rw [rdsS_cur _ h1] at g3 g4
    by_cases hf : 1 + 13 * cnt s + 7 ≤ s.size ∧ ((1 + 13 * cnt s : Nat) : Int) + 7 + bt s (1 + 13 * cnt s + 6) ≤ s.size
    · rw [reqS_cur hf.1 hf.2] at g3 g4
      have e := (done_cur (s := s) (by omega)).mp g3
      have hh : hasRq (rqTail s) := (tail_has z).mpr ⟨hf.1, by omega⟩
      refine ⟨z, by omega, hh, ?_⟩
      rw [tail_rq z hf.1]
      rw [e] at g4
      exact g4
    · exact absurd (g3.1.symm.trans (reqS_cur_bad h1 hf)) Bool.false_ne_true
  · rintro ⟨z, g2, g3, g4⟩
    have hcc := hcc z
    have g3' := (tail_has z).mp g3
    have e : 1 + 13 * cnt s + 7 + (bt s (1 + 13 * cnt s + 6)).toNat = s.size := by omega
    rw [rdsS_cur _ (by omega), reqS_cur g3'.1 (by omega)]
    rw [tail_rq z g3'.1] at g4
    refine ⟨by omega, ?_, (done_cur (by omega)).mpr e, by rw [e]; exact g4⟩
    have := g4.2.1
    rw [rds_length] at this
    omega

theorem zero_iff (s : ByteArray) : s = ⟨#[0]⟩ ↔ (s.size = 1 ∧ bt s 0 = 0) := by
  constructor
  · rintro rfl; exact ⟨rfl, rfl⟩
  · rintro ⟨h1, h2⟩
    obtain ⟨⟨l⟩⟩ := s
    match l, h1 with
    | [x], _ =>
      have h2 : ((x.toNat : Nat) : Int) = 0 := h2
      have : x = 0 := by
        apply UInt8.toNat_inj.mp
        have : x.toNat = 0 := by omega
        rw [this]; rfl
      rw [this]

theorem okI_iff (s : ByteArray) : okI s ↔ batchOK s := by
  unfold okI batchOK
  rw [zero_iff]
  by_cases h : s.size = 0
  · have : ¬ okR s := by
      rintro ⟨g1, _⟩
      unfold cI at g1
      rw [head_bad h] at g1
      have g1 : (0 : Int) ≤ 0 - 1 := g1
      omega
    constructor
    · rintro (h1 | h1)
      · omega
      · exact absurd h1.2 this
    · rintro ⟨h1, _⟩; exact absurd h h1
  · rw [okR_iff (by omega)]
    constructor
    · rintro (h1 | h1)
      · exact ⟨h, .inl ⟨h1.2, h1.1⟩⟩
      · exact ⟨h, .inr h1.2⟩
    · rintro ⟨_, h1 | h1⟩
      · exact .inl ⟨h1.2, h1.1⟩
      · exact .inr ⟨fun e => h1.1 ((zero_iff s).mp e).2, h1⟩

noncomputable def nulI (s : ByteArray) : Bool := decide (s = ⟨#[0]⟩)
noncomputable def rqR (s : ByteArray) : Rq := if s = ⟨#[0]⟩ then Rq0 else if okR s then rqI s else Rq0
noncomputable def rowsR (s : ByteArray) : List (List T) := if s = ⟨#[0]⟩ then [] else if okR s then (if cI s = 0 then [] else (rsI s).map Rd.T) else []
theorem p31w (s : ByteArray) : Pure En 31 [.one (.str s)] [.agg (btT (nulI s) (rqR s) (.sl false (rowsR s))), .one (.bool (decide (okI s)))] := by
  have h := p31 s
  unfold nulI rqR rowsR
  by_cases h0 : s = ⟨#[0]⟩
  · rw [resI_0 h0] at h
    simp only [h0, if_true, decide_true] at h ⊢
    exact h.weak (awN _ _ _)
  · by_cases h1 : okR s
    · by_cases h2 : cI s = 0
      · rw [resI_2 h0 h1 h2] at h
        simp only [h0, h1, h2, if_true, if_false, decide_false]
        exact h.weak (awN _ _ _)
      · rw [resI_3 h0 h1 h2] at h
        simp only [h0, h1, h2, if_true, if_false, decide_false]
        exact h.weak (awB _ _ _ _ _)
    · rw [resI_1 h0 h1] at h
      simp only [h0, h1, if_false, decide_false]
      exact h.weak (awN _ _ _)
theorem law_nul {s : ByteArray} (h : batchOK s) : nulI s = nulB s := by
  unfold nulI nulB
  rw [if_neg h.1]
  rcases h.2 with h1 | h1
  · rw [decide_eq_true ((zero_iff s).mpr ⟨h1.2, h1.1⟩), decide_eq_true h1.1]
  · rw [decide_eq_false (fun e => h1.1 ((zero_iff s).mp e).2), decide_eq_false h1.1]
theorem law_rq {s : ByteArray} (h : batchOK s) : rqR s = rqB s := by
  unfold rqR rqB
  rw [if_neg h.1]
  rcases h.2 with h1 | h1
  · rw [if_pos ((zero_iff s).mpr ⟨h1.2, h1.1⟩), if_pos h1.1]
  · have hs : 1 ≤ s.size := by have := h.1; omega
    have hk := (okR_iff hs).mpr h1
    rw [if_neg (fun e => h1.1 ((zero_iff s).mp e).2), if_pos hk, if_neg h1.1, if_neg (by omega)]
    have b0 := bt_0 s 0
    have hx : x1 s = cur s 1 := by unfold x1; rw [head_eq hs]
    have hc : cI s = bt s 0 - 1 := by unfold cI; rw [head_eq hs]
    have hcn : (cI s).toNat = cnt s := by rw [hc]; rfl
    have g3' := (tail_has h1.1).mp h1.2.2.1
    have hcc : bt s 0 - 1 = cnt s := by have := h1.1; unfold cnt; omega
    have bb := bt_0 s (1 + 13 * cnt s + 6)
    unfold rqI rqIf
    rw [if_pos h1.2.2.1, hcn, hx, rdsS_cur _ (by omega), reqS_cur g3'.1 (by omega), tail_rq h1.1 g3'.1]
    have e : 1 + 13 * cnt s + 7 + (bt s (1 + 13 * cnt s + 6)).toNat = s.size := by omega
    rw [e]
end Go.Proofs.Ytnkpjlpappmccaa
