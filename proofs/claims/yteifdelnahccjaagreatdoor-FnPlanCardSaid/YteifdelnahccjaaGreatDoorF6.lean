import Derived.Test.YteifdelnahccjaaGreatDoorF5
namespace Go.Proofs.YteifdelnahccjaaGreatDoor
open Go.V
set_option linter.unusedVariables false
set_option linter.unusedSimpArgs false
set_option maxRecDepth 20000
namespace Rd
def skl (p : ByteArray) : Rd → List Nat → Rd
 | s, [] => s
 | s, n :: r => skl p (s.sk p n) r
theorem skl_bad {p : ByteArray} : ∀ {l : List Nat} {s : Rd}, s.b = true → (skl p s l).b = true
 | [], _, h => h
 | n :: r, s, h => skl_bad (p := p) (l := r) (s := s.sk p n) (sk_bad h)
theorem skl_ok {p : ByteArray} : ∀ {l : List Nat} {o : Nat}, o + l.sum ≤ p.size → skl p ⟨o, false⟩ l = ⟨o + l.sum, false⟩
 | [], o, _ => rfl
 | n :: r, o, h => by
  rw [List.sum_cons] at h
  show skl p (Rd.sk p ⟨o, false⟩ n) r = _
  rw [sk_ok (by omega), skl_ok (by omega), List.sum_cons, Nat.add_assoc]
theorem skl_no {p : ByteArray} : ∀ {l : List Nat} {o : Nat}, p.size < o + l.sum → o ≤ p.size → (skl p ⟨o, false⟩ l).b = true
 | [], o, h, h0 => by simp at h; omega
 | n :: r, o, h, h0 => by
  rw [List.sum_cons] at h
  show (skl p (Rd.sk p ⟨o, false⟩ n) r).b = true
  by_cases q : o + n ≤ p.size
  ·rw [sk_ok q]; exact skl_no (by omega) q
  ·rw [sk_no (by omega)]; exact skl_bad rfl
theorem few_no {p : ByteArray} {o : Nat} {n : Int} (h : (p.size : Int) < o + n) : few p ⟨o, false⟩ n := .inr (by show n > (p.size : Int) - o; omega)
theorem sk_int {p : ByteArray} {o : Nat} {n : Int} (h0 : 0 ≤ n) (h : (o : Int) + n ≤ p.size) : sk p ⟨o, false⟩ n = ⟨o + n.toNat, false⟩ := by
 obtain ⟨m, rfl⟩ : ∃ m : Nat, n = m := ⟨n.toNat, by omega⟩
 rw [sk_ok (by omega)]; rfl
theorem tk_int {p : ByteArray} {o : Nat} {n : Int} (h0 : 0 ≤ n) (h : (o : Int) + n ≤ p.size) : tk p ⟨o, false⟩ n = p.extract o (o + n.toNat) := by
 obtain ⟨m, rfl⟩ : ∃ m : Nat, n = m := ⟨n.toNat, by omega⟩
 rw [tk_ok (by omega)]; rfl
theorem sk_noI {p : ByteArray} {o : Nat} {n : Int} (h : (p.size : Int) < o + n) : (sk p ⟨o, false⟩ n).b = true := by unfold sk; rw [if_pos (few_no h)]
end Rd
def rqS (p : ByteArray) (s : Rd) : Rd := ((((s.sk p 1).sk p 2).sk p 1).sk p 2).skz p 1
def rqV (p : ByteArray) (s : Rd) : Rq := ⟨s.nm p 1, (s.sk p 1).nm p 2, ((s.sk p 1).sk p 2).nm p 1, (((s.sk p 1).sk p 2).sk p 1).nm p 2, ((((s.sk p 1).sk p 2).sk p 1).sk p 2).tkz p 1⟩
def rqL (p : ByteArray) (o : Nat) : Prop := o + 7 ≤ p.size ∧ (p.size : Int) = o + 7 + num p (o + 6) 1
instance dcN2 (p : ByteArray) (o : Nat) : Decidable (rqL p o) := by unfold rqL; infer_instance
def rqC (p : ByteArray) (o : Nat) : Rq := ⟨num p o 1, num p (o + 1) 2, num p (o + 3) 1, num p (o + 4) 2, p.extract (o + 7) p.size⟩
theorem rqS_bad {p : ByteArray} {s : Rd} (h : s.b = true) : (rqS p s).b = true := Rd.skz_bad (Rd.sk_bad (Rd.sk_bad (Rd.sk_bad (Rd.sk_bad h))))
theorem rq_done {p : ByteArray} {o : Nat} (h : o ≤ p.size) : (rqS p ⟨o, false⟩).done p ↔ rqL p o := by
 have e : rqS p ⟨o, false⟩ = (Rd.skl p ⟨o, false⟩ [1, 2, 1, 2, 1]).sk p ((Rd.skl p ⟨o, false⟩ [1, 2, 1, 2]).nm p 1) := rfl
 have n0 := K3 p (o + 6) 1
 by_cases q : o + 7 ≤ p.size
 ·rw [e, Rd.skl_ok (by show o + 7 ≤ p.size; exact q), Rd.skl_ok (by show o + 6 ≤ p.size; omega)]
  show (Rd.sk p ⟨o + 7, false⟩ (Rd.nm p ⟨o + 6, false⟩ 1)).done p ↔ _
  rw [Rd.nm_ok (by omega)]
  by_cases r : ((o + 7 : Nat) : Int) + num p (o + 6) 1 ≤ p.size
  ·rw [Rd.sk_int n0 r]
   unfold Rd.done rqL
   dsimp only
   constructor
   ·intro x; exact ⟨q, by have := x.2; omega⟩
   ·intro x; exact ⟨rfl, by have := x.2; omega⟩
  ·have b := Rd.sk_noI (p := p) (o := o + 7) (n := num p (o + 6) 1) (by omega)
   constructor
   ·intro x; rw [x.1] at b; cases b
   ·intro x; have := x.2; omega
 ·have b : (Rd.skl p ⟨o, false⟩ [1, 2, 1, 2, 1]).b = true := Rd.skl_no (by show p.size < o + 7; omega) h
  have b2 : (rqS p ⟨o, false⟩).b = true := by rw [e]; exact Rd.sk_bad b
  constructor
  ·intro x; rw [x.1] at b2; cases b2
  ·intro x; exact absurd x.1 q
theorem rq_val {p : ByteArray} {o : Nat} (h : rqL p o) : rqV p ⟨o, false⟩ = rqC p o := by
 obtain ⟨q, r⟩ := h
 have n0 := K3 p (o + 6) 1
 have e1 : Rd.sk p ⟨o, false⟩ 1 = ⟨o + 1, false⟩ := Rd.sk_ok (n := 1) (by omega)
 have e2 : Rd.sk p ⟨o + 1, false⟩ 2 = ⟨o + 3, false⟩ := Rd.sk_ok (n := 2) (by omega)
 have e3 : Rd.sk p ⟨o + 3, false⟩ 1 = ⟨o + 4, false⟩ := Rd.sk_ok (n := 1) (by omega)
 have e4 : Rd.sk p ⟨o + 4, false⟩ 2 = ⟨o + 6, false⟩ := Rd.sk_ok (n := 2) (by omega)
 have e5 : Rd.sk p ⟨o + 6, false⟩ ((1 : Nat) : Int) = ⟨o + 7, false⟩ := Rd.sk_ok (n := 1) (by omega)
 unfold rqV rqC Rd.tkz
 rw [e1, e2, e3, e4, e5, Rd.nm_ok (by omega), Rd.nm_ok (by omega), Rd.nm_ok (by omega), Rd.nm_ok (by omega), Rd.nm_ok (by omega), Rd.tk_int n0 (by omega)]
 congr 2
 omega
theorem rqL_ext {p : ByteArray} {o : Nat} (h : o ≤ p.size) : rqL (p.extract o p.size) 0 ↔ rqL p o := by
 unfold rqL
 rw [C5 (Nat.le_refl _)]
 by_cases q : o + 7 ≤ p.size
 ·rw [F0 (Nat.le_refl _) (by omega)]
  simp only [Nat.zero_add]
  constructor <;> intro x <;> exact ⟨by omega, by have := x.2; omega⟩
 ·constructor <;> intro x <;> exact absurd x.1 (by omega)
theorem rqC_ext {p : ByteArray} {o : Nat} (h : o + 7 ≤ p.size) : rqC (p.extract o p.size) 0 = rqC p o := by
 unfold rqC
 rw [F0 (Nat.le_refl _) (by omega), F0 (Nat.le_refl _) (by omega), F0 (Nat.le_refl _) (by omega), F0 (Nat.le_refl _) (by omega), C5 (Nat.le_refl _), P9 (by omega)]
 simp only [Nat.zero_add, Nat.add_zero]
 congr 2; omega
structure Msg where
 kd : Int
 vw : Int
 sq : Int
 fr : Int
 dg : ByteArray
 bd : ByteArray
 mc : ByteArray
def Msg.T (m : Msg) : List V.T := [.int .i64 m.kd, .int .i64 m.vw, .int .i64 m.sq, .int .i64 m.fr, .str m.dg, .str m.bd, .str m.mc]
def Msg.V (m : Msg) : List V := [.int .i64 m.kd, .int .i64 m.vw, .int .i64 m.sq, .int .i64 m.fr, .str m.dg, .str m.bd, .str m.mc]
def Msg0 : Msg := ⟨0, 0, 0, 0, ⟨#[]⟩, ⟨#[]⟩, ⟨#[]⟩⟩
def Msg.OK (m : Msg) : Prop := (1 ≤ m.kd ∧ m.kd ≤ 5) ∧ (0 ≤ m.vw ∧ m.vw ≤ 20) ∧ (0 ≤ m.fr ∧ m.fr ≤ 6) ∧ m.mc.size = 8 ∧ m.bd.size ≤ 20000 ∧
 (if m.kd ≤ 3 then (1 ≤ m.sq ∧ m.sq ≤ 8) ∧ m.dg.size = 32 ∧ (m.bd ≠ ⟨#[]⟩ ↔ m.kd = 1) else m.sq = 0 ∧ m.dg = ⟨#[]⟩)
instance dcN3 (m : Msg) : Decidable m.OK := by unfold Msg.OK; infer_instance
def msA (p : ByteArray) (s : Rd) : Rd := (((s.sk p 1).sk p 1).sk p 1).sk p 1
def msS (p : ByteArray) (s : Rd) : Rd := (((msA p s).skz p 1).skz p 2).sk p 8
def msV (p : ByteArray) (s : Rd) : Msg := ⟨s.nm p 1, (s.sk p 1).nm p 1, ((s.sk p 1).sk p 1).nm p 1, (((s.sk p 1).sk p 1).sk p 1).nm p 1, (msA p s).tkz p 1, ((msA p s).skz p 1).tkz p 2, (((msA p s).skz p 1).skz p 2).tk p 8⟩
def msD (p : ByteArray) : Nat := 5 + (num p 4 1).toNat
def msE (p : ByteArray) : Nat := msD p + 2 + (num p (msD p) 2).toNat
def msL (p : ByteArray) : Prop := 7 ≤ p.size ∧ msD p + 2 ≤ p.size ∧ p.size = msE p + 8
instance dcN4 (p : ByteArray) : Decidable (msL p) := by unfold msL; infer_instance
def msC (p : ByteArray) : Msg := ⟨num p 0 1, num p 1 1, num p 2 1, num p 3 1, p.extract 5 (msD p), p.extract (msD p + 2) (msE p), p.extract (msE p) p.size⟩
theorem ms_at {p : ByteArray} (h : 5 ≤ p.size) : msA p ⟨0, false⟩ = ⟨4, false⟩ := by
 have := Rd.skl_ok (p := p) (l := [1, 1, 1, 1]) (o := 0) (by show 0 + 4 ≤ p.size; omega)
 exact this
theorem X5 {p : ByteArray} {o k : Nat} (h : o + k ≤ p.size) (h2 : o + k + (num p o k).toNat ≤ p.size) : Rd.skz p ⟨o, false⟩ k = ⟨o + k + (num p o k).toNat, false⟩ := by
 have n0 := K3 p o k
 unfold Rd.skz
 rw [Rd.sk_ok h, Rd.nm_ok h, Rd.sk_int n0 (by omega)]
theorem skz_no {p : ByteArray} {o k : Nat} (h0 : o ≤ p.size) (h : ¬ (o + k ≤ p.size ∧ o + k + (num p o k).toNat ≤ p.size)) : (Rd.skz p ⟨o, false⟩ k).b = true := by
 unfold Rd.skz
 by_cases q : o + k ≤ p.size
 ·have n0 := K3 p o k
  rw [Rd.sk_ok q, Rd.nm_ok q]
  exact Rd.sk_noI (by omega)
 ·rw [Rd.sk_no (by omega)]; exact Rd.sk_bad rfl
theorem tkz_ok {p : ByteArray} {o k : Nat} (h : o + k ≤ p.size) (h2 : o + k + (num p o k).toNat ≤ p.size) : Rd.tkz p ⟨o, false⟩ k = p.extract (o + k) (o + k + (num p o k).toNat) := by
 have n0 := K3 p o k
 unfold Rd.tkz
 rw [Rd.sk_ok h, Rd.nm_ok h, Rd.tk_int n0 (by omega)]
theorem ms_done (p : ByteArray) : (msS p ⟨0, false⟩).done p ↔ msL p := by
 unfold msL
 by_cases h5 : 5 ≤ p.size
 ·unfold msS
  rw [ms_at h5]
  by_cases q : msD p ≤ p.size
  ·rw [X5 (o := 4) (k := 1) (by omega) (by unfold msD at q; omega)]
   show (Rd.sk p (Rd.skz p ⟨4 + 1 + _, false⟩ 2) 8).done p ↔ _
   rw [show 4 + 1 + (num p 4 1).toNat = msD p from rfl]
   by_cases r : msD p + 2 ≤ p.size ∧ msD p + 2 + (num p (msD p) 2).toNat ≤ p.size
   ·rw [X5 r.1 r.2]
    rw [show msD p + 2 + (num p (msD p) 2).toNat = msE p from rfl] at r ⊢
    by_cases z : msE p + 8 ≤ p.size
    ·rw [show Rd.sk p ⟨msE p, false⟩ 8 = ⟨msE p + 8, false⟩ from Rd.sk_ok (n := 8) z]
     unfold Rd.done; dsimp only
     have : 7 ≤ p.size := by omega
     constructor
     ·intro x; exact ⟨this, r.1, x.2.symm⟩
     ·intro x; exact ⟨rfl, x.2.2.symm⟩
    ·have b : (Rd.sk p ⟨msE p, false⟩ 8).b = true := Rd.sk_noI (by omega)
     constructor
     ·intro x; rw [x.1] at b; cases b
     ·intro x; have := x.2.2; omega
   ·have b := Rd.sk_bad (p := p) (n := 8) (skz_no q r)
    constructor
    ·intro x; rw [x.1] at b; cases b
    ·intro x; exact absurd ⟨x.2.1, by have := x.2.2; unfold msE at this; omega⟩ r
  ·have b := Rd.sk_bad (p := p) (n := 8) (Rd.skz_bad (p := p) (k := 2) (skz_no (p := p) (o := 4) (k := 1) (by omega) (by unfold msD at q; omega)))
   constructor
   ·intro x; rw [x.1] at b; cases b
   ·intro x; have := x.2.1; omega
 ·have b : (msS p ⟨0, false⟩).b = true := by
   have e : msS p ⟨0, false⟩ = (((Rd.skl p ⟨0, false⟩ [1, 1, 1, 1, 1]).sk p ((msA p ⟨0, false⟩).nm p 1)).skz p 2).sk p 8 := rfl
   rw [e]
   exact Rd.sk_bad (Rd.skz_bad (Rd.sk_bad (Rd.skl_no (by show p.size < 0 + 5; omega) (by omega))))
  constructor
  ·intro x; rw [x.1] at b; cases b
  ·intro x; have := x.1; omega
theorem ms_val {p : ByteArray} (h : msL p) : msV p ⟨0, false⟩ = msC p := by
 obtain ⟨h7, h2, h8⟩ := h
 have e1 : Rd.sk p ⟨0, false⟩ 1 = ⟨1, false⟩ := Rd.sk_ok (n := 1) (by omega)
 have e2 : Rd.sk p ⟨1, false⟩ 1 = ⟨2, false⟩ := Rd.sk_ok (n := 1) (by omega)
 have e3 : Rd.sk p ⟨2, false⟩ 1 = ⟨3, false⟩ := Rd.sk_ok (n := 1) (by omega)
 have eD : 4 + 1 + (num p 4 1).toNat = msD p := rfl
 have eE : msD p + 2 + (num p (msD p) 2).toNat = msE p := rfl
 unfold msV msC
 rw [ms_at (by omega), e1, e2, e3, Rd.nm_ok (by omega), Rd.nm_ok (by omega), Rd.nm_ok (by omega), Rd.nm_ok (by omega), tkz_ok (o := 4) (k := 1) (by omega) (by omega), X5 (o := 4) (k := 1) (by omega) (by omega), eD, tkz_ok (by omega) (by omega), X5 (by omega) (by omega), eE, Rd.tk_int (by decide) (by omega)]
 congr 2; omega
open Go.V
set_option linter.unusedVariables false
set_option linter.unusedSimpArgs false
set_option maxRecDepth 20000
structure Rg where
 fr : Int
 vl : Int
 mc : ByteArray
def Rg.T (a : Rg) : List V.T := [.int .i64 a.fr, .int .i64 a.vl, .str a.mc]
def Rg.V (a : Rg) : List V := [.int .i64 a.fr, .int .i64 a.vl, .str a.mc]
def Rg0 : Rg := ⟨0, 0, ⟨#[]⟩⟩
def Rg.OK (a : Rg) : Prop := (0 ≤ a.fr ∧ a.fr ≤ 6) ∧ (0 ≤ a.vl ∧ a.vl ≤ 1000000000) ∧ a.mc.size = 8
instance dcN5 (a : Rg) : Decidable a.OK := by unfold Rg.OK; infer_instance
def RqZ : Rq := ⟨0, 0, 0, 0, ⟨#[]⟩⟩
structure Bt where
 nl : Bool
 rq : Rq
 rs : List Rg
def Bt.T (b : Bool) (x : Bt) : List V.T := [.bool x.nl, .int .i64 x.rq.cl, .int .i64 x.rq.st, .int .i64 x.rq.kd, .int .i64 x.rq.le, .str x.rq.nm, .sl b (x.rs.map Rg.T)]
def BtZ : Bt := ⟨false, RqZ, []⟩
def rdsOK (rs : List Rg) : Prop := ∀ i, i < rs.length → (rs.getD i Rg0).OK ∧ (0 < i → (rs.getD (i - 1) Rg0).fr < (rs.getD i Rg0).fr)
noncomputable instance dcN6 (rs : List Rg) : Decidable (rdsOK rs) := Classical.propDecidable _
def Bt.OK (x : Bt) : Prop := if x.nl = true then x.rq = RqZ ∧ x.rs.length = 0 else x.rq.OK ∧ x.rs.length ≤ 7 ∧ rdsOK x.rs
noncomputable instance dcN7 (x : Bt) : Decidable x.OK := Classical.propDecidable _
def rgS (p : ByteArray) (s : Rd) : Rd := ((s.sk p 1).sk p 4).sk p 8
def rgV (p : ByteArray) (s : Rd) : Rg := ⟨s.nm p 1, (s.sk p 1).nm p 4, ((s.sk p 1).sk p 4).tk p 8⟩
def rgI (p : ByteArray) (s : Rd) : Nat → Rd
 | 0 => s
 | i + 1 => rgS p (rgI p s i)
def rgL (p : ByteArray) (s : Rd) : Nat → List Rg
 | 0 => []
 | i + 1 => rgL p s i ++ [rgV p (rgI p s i)]
def rgC (p : ByteArray) (i : Nat) : Rg := ⟨num p (1 + 13 * i) 1, num p (2 + 13 * i) 4, p.extract (6 + 13 * i) (14 + 13 * i)⟩
theorem rgL_len (p : ByteArray) (s : Rd) : ∀ i, (rgL p s i).length = i
 | 0 => rfl
 | i + 1 => by show (rgL p s i ++ [_]).length = _; rw [List.length_append, rgL_len p s i]; rfl
theorem rgS_ok {p : ByteArray} {o : Nat} (h : o + 13 ≤ p.size) : rgS p ⟨o, false⟩ = ⟨o + 13, false⟩ := by
 have := Rd.skl_ok (p := p) (l := [1, 4, 8]) (o := o) (by show o + 13 ≤ p.size; exact h)
 exact this
theorem X6 {p : ByteArray} : ∀ {k : Nat}, 1 + 13 * k ≤ p.size → rgI p ⟨1, false⟩ k = ⟨1 + 13 * k, false⟩
 | 0, _ => rfl
 | k + 1, h => by
  show rgS p (rgI p ⟨1, false⟩ k) = _
  rw [X6 (by omega), rgS_ok (by omega)]; congr 1
theorem rgS_bad {p : ByteArray} {s : Rd} (h : s.b = true) : (rgS p s).b = true := Rd.sk_bad (Rd.sk_bad (Rd.sk_bad h))
theorem rgI_no {p : ByteArray} (h1 : 1 ≤ p.size) : ∀ {k : Nat}, p.size < 1 + 13 * k → (rgI p ⟨1, false⟩ k).b = true
 | 0, h => by omega
 | k + 1, h => by
  show (rgS p (rgI p ⟨1, false⟩ k)).b = true
  by_cases q : 1 + 13 * k ≤ p.size
  ·rw [X6 q]
   exact Rd.skl_no (p := p) (l := [1, 4, 8]) (by show p.size < 1 + 13 * k + 13; omega) q
  ·exact rgS_bad (rgI_no h1 (by omega))
theorem rgV_ok {p : ByteArray} {i : Nat} (h : 1 + 13 * i + 13 ≤ p.size) : rgV p ⟨1 + 13 * i, false⟩ = rgC p i := by
 have e1 : Rd.sk p ⟨1 + 13 * i, false⟩ 1 = ⟨1 + 13 * i + 1, false⟩ := Rd.sk_ok (n := 1) (by omega)
 have e2 : Rd.sk p ⟨1 + 13 * i + 1, false⟩ 4 = ⟨1 + 13 * i + 1 + 4, false⟩ := Rd.sk_ok (n := 4) (by omega)
 unfold rgV rgC
 rw [e1, e2, Rd.nm_ok (by omega), Rd.nm_ok (by omega), Rd.tk_int (by decide) (by omega)]
 congr 1
 ·congr 1; omega
 ·congr 1 <;> omega
theorem rgL_ok {p : ByteArray} : ∀ {k : Nat}, 1 + 13 * k ≤ p.size → rgL p ⟨1, false⟩ k = (List.range k).map (rgC p)
 | 0, _ => rfl
 | k + 1, h => by
  show rgL p ⟨1, false⟩ k ++ [rgV p (rgI p ⟨1, false⟩ k)] = _
  rw [rgL_ok (by omega), X6 (by omega), rgV_ok (by omega), List.range_succ, List.map_append]; rfl
def btN (p : ByteArray) : Nat := (num p 0 1 - 1).toNat
def btL (p : ByteArray) : Prop := 1 ≤ p.size ∧ 1 ≤ num p 0 1 ∧ 1 + 13 * btN p ≤ p.size ∧ rqL p (1 + 13 * btN p)
instance dcN8 (p : ByteArray) : Decidable (btL p) := by unfold btL; infer_instance
def btC (p : ByteArray) : Bt := ⟨false, rqC p (1 + 13 * btN p), (List.range (btN p)).map (rgC p)⟩
def nullT : ByteArray := ⟨#[0]⟩
def BtN : Bt := ⟨true, RqZ, []⟩
def bOK (p : ByteArray) : Prop := p = nullT ∨ btL p ∧ (btC p).OK
noncomputable instance dcN9 (p : ByteArray) : Decidable (bOK p) := Classical.propDecidable _
noncomputable def bX (p : ByteArray) : Bt := if p = nullT then BtN else btC p
theorem H9 {p : ByteArray} (h1 : 1 ≤ p.size) (hn : 1 ≤ num p 0 1) : (rqS p (rgI p ⟨1, false⟩ (btN p))).done p ↔ btL p := by
 unfold btL
 by_cases q : 1 + 13 * btN p ≤ p.size
 ·rw [X6 q, rq_done q]
  exact ⟨fun x => ⟨h1, hn, q, x⟩, fun x => x.2.2.2⟩
 ·have b := rqS_bad (p := p) (rgI_no h1 (k := btN p) (by omega))
  constructor
  ·intro x; rw [x.1] at b; cases b
  ·intro x; exact absurd x.2.2.1 q
theorem G3 (p : ByteArray) : p = nullT ↔ p.size = 1 ∧ num p 0 1 = 0 := by
 constructor
 ·rintro rfl; exact ⟨rfl, by rw [num_1]; rfl⟩
 ·intro ⟨h1, h2⟩
  rw [num_1] at h2
  obtain ⟨⟨l⟩⟩ := p
  match l, h1 with
  | [x], _ =>
   have e : (x.toNat : Int) = 0 := h2
   have : x = 0 := UInt8.toNat.inj (by have h0 : (0 : UInt8).toNat = 0 := rfl; omega)
   rw [this]; rfl
def sg (p : ByteArray) : Nat → Option (List ByteArray × Nat)
 | 0 => some ([], 1)
 | i + 1 => match sg p i with
  | none => none
  | some (l, o) => if o + 2 ≤ p.size ∧ o + 2 + (num p o 2).toNat ≤ p.size then some (l ++ [p.extract (o + 2) (o + 2 + (num p o 2).toNat)], o + 2 + (num p o 2).toNat) else none
theorem sg_len {p : ByteArray} : ∀ {i : Nat} {l : List ByteArray} {o : Nat}, sg p i = some (l, o) → l.length = i ∧ (1 ≤ p.size → o ≤ p.size) ∧ 1 ≤ o
 | 0, l, o, h => by cases h; exact ⟨rfl, fun h => h, Nat.le_refl _⟩
 | i + 1, l, o, h => by
  unfold sg at h
  split at h
  ·cases h
  ·next l1 o1 e =>
   split at h
   ·next c => cases h; have := sg_len e; exact ⟨by rw [List.length_append, this.1]; rfl, fun _ => c.2, by omega⟩
   ·cases h
theorem sg_mono {p : ByteArray} {i : Nat} (h : sg p i = none) : sg p (i + 1) = none := by unfold sg; rw [h]
theorem sg_none {p : ByteArray} {i : Nat} (h : sg p i = none) : ∀ {j : Nat}, i ≤ j → sg p j = none
 | 0, hj => by have : i = 0 := Nat.le_zero.1 hj; subst this; exact h
 | j + 1, hj => by
  by_cases e : i = j + 1
  ·subst e; exact h
  ·exact sg_mono (sg_none h (by omega))
theorem T0 {p : ByteArray} {i : Nat} {l : List ByteArray} {o : Nat} (h : sg p i = some (l, o)) (c : o + 2 ≤ p.size ∧ o + 2 + (num p o 2).toNat ≤ p.size) : sg p (i + 1) = some (l ++ [p.extract (o + 2) (o + 2 + (num p o 2).toNat)], o + 2 + (num p o 2).toNat) := by
 rw [sg, h]; exact if_pos c
theorem sg_no {p : ByteArray} {i : Nat} {l : List ByteArray} {o : Nat} (h : sg p i = some (l, o)) (c : ¬ (o + 2 ≤ p.size ∧ o + 2 + (num p o 2).toNat ≤ p.size)) : sg p (i + 1) = none := by
 rw [sg, h]; exact if_neg c
def short (l : List ByteArray) : Prop := ∀ s ∈ l, s.size ≤ 20000
instance dcN10 (l : List ByteArray) : Decidable (short l) := by unfold short; infer_instance
def lsC (p : ByteArray) : Option (List ByteArray) := if 1 ≤ p.size ∧ num p 0 1 ≤ 100 then (match sg p (num p 0 1).toNat with | some (l, o) => if o = p.size ∧ short l then some l else none | none => none) else none
open Go.V
set_option linter.unusedVariables false
set_option linter.unusedSimpArgs false
set_option maxRecDepth 20000
structure Ct where
 bd : ByteArray
 ps : List Msg
def Ct.T (b : Bool) (c : Ct) : List V.T := [.str c.bd, .sl b (c.ps.map Msg.T)]
def Ct0 : Ct := ⟨⟨#[]⟩, []⟩
def nodesOK (n : Int) : Prop := n = 1 ∨ n = 4 ∨ n = 7
instance dcN11 (n : Int) : Decidable (nodesOK n) := by unfold nodesOK; infer_instance
def quo (n : Int) : Int := 2 * ((n - 1) / 3) + 1
theorem quo_v {n : Int} (h : nodesOK n) : quo n = 1 ∧ n = 1 ∨ quo n = 3 ∧ n = 4 ∨ quo n = 5 ∧ n = 7 := by
 rcases h with rfl | rfl | rfl <;> decide
def mss : List ByteArray → Option (List Msg)
 | [] => some []
 | s :: r => if msL s ∧ (msC s).OK ∧ (msC s).kd = 2 then (mss r).map (msC s :: ·) else none
def ctC (p : ByteArray) : Option Ct := match lsC p with
 | some (b :: r) => if r.length ≤ 7 then (mss r).map (Ct.mk b) else none
 | _ => none
section marks
variable (mk : Int → ByteArray → ByteArray) (pl : Msg → ByteArray) (rm : Int → Int → ByteArray) (dg : ByteArray → ByteArray)
def sgd (n : Int) (m : Msg) : Prop := m.OK ∧ m.fr < n ∧ m.mc = mk m.fr (pl m)
def timeOK (n : Int) (rs : List Rg) : Prop := (rs.length : Int) = quo n ∧ ∀ i, i < rs.length → ((rs.getD i Rg0).OK ∧ (rs.getD i Rg0).fr < n ∧ (rs.getD i Rg0).mc = rm (rs.getD i Rg0).fr (rs.getD i Rg0).vl) ∧ (0 < i → (rs.getD (i - 1) Rg0).fr < (rs.getD i Rg0).fr)
def bodyOK (n : Int) (p : ByteArray) : Prop := bOK p ∧ ((bX p).nl = true ∨ timeOK rm n (bX p).rs)
def pOK (n : Int) (c : Ct) (i : Nat) : Prop := (c.ps.getD i Msg0).kd = 2 ∧ sgd mk pl n (c.ps.getD i Msg0) ∧ (c.ps.getD i Msg0).dg = dg c.bd ∧ (c.ps.getD i Msg0).vw = (c.ps.getD 0 Msg0).vw ∧ (c.ps.getD i Msg0).sq = (c.ps.getD 0 Msg0).sq ∧ (0 < i → (c.ps.getD (i - 1) Msg0).fr < (c.ps.getD i Msg0).fr)
def ctOK (n : Int) (c : Ct) : Prop := (c.ps.length : Int) = quo n ∧ c.bd.size ≤ 20000 ∧ bodyOK rm n c.bd ∧ ∀ i, i < c.ps.length → pOK mk pl dg n c i
end marks
open Go.V
set_option linter.unusedVariables false
set_option linter.unusedSimpArgs false
set_option maxRecDepth 20000
def Ct.vw (c : Ct) : Int := (c.ps.getD 0 Msg0).vw
def Ct.sq (c : Ct) : Int := (c.ps.getD 0 Msg0).sq
section marks
variable (mk : Int → ByteArray → ByteArray) (pl : Msg → ByteArray) (rm : Int → Int → ByteArray) (dg : ByteArray → ByteArray)
def vcT (n vw : Int) (out : List Ct) (s : ByteArray) (c : Ct) : Prop := ctC s = some c ∧ ctOK mk pl rm dg n c ∧ c.vw < vw ∧ (out ≠ [] → (out.getD (out.length - 1) Ct0).sq < c.sq)
inductive Vc (n vw : Int) (l : List ByteArray) : Nat → List Ct → Prop
 | nil : Vc n vw l 0 []
 | more (i : Nat) (out : List Ct) (c : Ct) (h : Vc n vw l i out) (hi : i < l.length) (hc : vcT mk pl rm dg n vw out (l.getD i ⟨#[]⟩) c) : Vc n vw l (i + 1) (out ++ [c])
variable {mk pl rm dg}
theorem vcT_un {n vw : Int} {out : List Ct} {s : ByteArray} {c d : Ct} (h : vcT mk pl rm dg n vw out s c) (k : vcT mk pl rm dg n vw out s d) : c = d := by
 have := h.1.symm.trans k.1; exact Option.some.inj this
theorem Vc.len {n vw : Int} {l : List ByteArray} {i : Nat} {out : List Ct} (h : Vc mk pl rm dg n vw l i out) : out.length = i := by
 induction h with
 | nil => rfl
 | more i out c h hi hc ih => rw [List.length_append, ih]; rfl
theorem Vc.un {n vw : Int} {l : List ByteArray} {i : Nat} {out : List Ct} (h : Vc mk pl rm dg n vw l i out) : ∀ {o2 : List Ct}, Vc mk pl rm dg n vw l i o2 → out = o2 := by
 induction h with
 | nil => intro o2 k; cases k; rfl
 | more i out c h hi hc ih =>
  intro o2 k
  cases k with
  | more _ o3 d k ki kc =>
   have e := ih k
   subst e
   rw [vcT_un hc kc]
theorem Vc.stop {n vw : Int} {l : List ByteArray} {i : Nat} {out : List Ct} (h : Vc mk pl rm dg n vw l i out) (hi : i < l.length) (hc : ∀ c, ¬ vcT mk pl rm dg n vw out (l.getD i ⟨#[]⟩) c) : ∀ {j : Nat} {o2 : List Ct}, i < j → ¬ Vc mk pl rm dg n vw l j o2 := by
 intro j o2 hj k
 induction k with
 | nil => omega
 | more j o3 c k kj kc ih =>
  by_cases e : i = j
  ·subst e
   have := h.un k
   subst this
   exact hc c kc
  ·exact ih (by omega)
variable (mk pl rm dg)
def vcM (n : Int) (m : Msg) (out : List Ct) : Prop := m.kd = 4 ∧ 1 ≤ m.vw ∧ sgd mk pl n m ∧ ∃ l, lsC m.bd = some l ∧ l.length ≤ 8 ∧ Vc mk pl rm dg n m.vw l l.length out
end marks
structure Pl where
 B : List Ct
 last : Int
def Pl0 : Pl := ⟨List.replicate 9 Ct0, 0⟩
def Pl.step (s : Pl) (c : Ct) : Pl := ⟨if (s.B.getD c.sq.toNat Ct0).ps.length = 0 ∨ (s.B.getD c.sq.toNat Ct0).vw < c.vw then s.B.set c.sq.toNat c else s.B, max s.last c.sq⟩
def Pl.run (s : Pl) : List Ct → Pl
 | [] => s
 | c :: r => (s.step c).run r
def Pl.out (s : Pl) : List ByteArray := (List.range s.last.toNat).map fun k => if (s.B.getD (k + 1) Ct0).ps.length = 0 then nullT else (s.B.getD (k + 1) Ct0).bd
open Go.V
set_option linter.unusedVariables false
set_option linter.unusedSimpArgs false
set_option maxRecDepth 20000
theorem or8 {a c : Int} (h0 : 0 ≤ a) (h1 : a < 36028797018963968) (c0 : 0 ≤ c) (c1 : c < 256) : bits .or .i64 (IntKind.i64.wrap (a * 2 ^ (min (8 : Int).toNat IntKind.i64.bits))) c = a * 256 + c := by
 have e : a * 2 ^ (min (8 : Int).toNat IntKind.i64.bits) = a * 256 := rfl
 rw [e, wrap_i64 (by omega) (by omega)]
 obtain ⟨A, rfl⟩ : ∃ n : Nat, a = n := ⟨a.toNat, by omega⟩
 obtain ⟨C, rfl⟩ : ∃ n : Nat, c = n := ⟨c.toNat, by omega⟩
 have hA : BitVec.ofInt 64 ((A : Int) * 256) = BitVec.ofNat 64 (A * 256) := by rw [show (A : Int) * 256 = ((A * 256 : Nat) : Int) by omega, BitVec.ofInt_natCast]
 have hC : BitVec.ofInt 64 (C : Int) = BitVec.ofNat 64 C := BitVec.ofInt_natCast ..
 show IntKind.i64.wrap ((BitVec.ofInt 64 ((A : Int) * 256) ||| BitVec.ofInt 64 (C : Int)).toNat : Int) = _
 rw [hA, hC, BitVec.toNat_or, BitVec.toNat_ofNat, BitVec.toNat_ofNat, Nat.mod_eq_of_lt (by omega), Nat.mod_eq_of_lt (by omega)]
 have e2 : A * 256 ||| C = A * 256 + C := by
  have := Nat.shiftLeft_add_eq_or_of_lt (b := C) (i := 8) (by omega) A
  rw [Nat.shiftLeft_eq] at this
  exact this.symm
 rw [e2, wrap_i64 (by omega) (by omega)]
 omega
theorem num_lt (p : ByteArray) (a : Nat) : ∀ k, k ≤ 6 → num p a k < 281474976710656
 | 0, _ => by show (0 : Int) < _; omega
 | 1, _ => by have := num1_le p a; omega
 | 2, _ => by have := S0 p a; omega
 | 3, _ => by have := S0 p a; have := E7 p (a + 2); show num p a 2 * 256 + bt p (a + 2) < _; omega
 | 4, _ => by have := num4_le p a; omega
 | 5, _ => by have := num4_le p a; have := E7 p (a + 4); show num p a 4 * 256 + bt p (a + 4) < _; omega
 | 6, _ => by have := num4_le p a; have := E7 p (a + 4); have := E7 p (a + 5); show (num p a 4 * 256 + bt p (a + 4)) * 256 + bt p (a + 5) < _; omega
 | k + 7, h => by omega
open Go.V
set_option linter.unusedVariables false
set_option linter.unusedSimpArgs false
set_option maxRecDepth 20000
set_option maxHeartbeats 4000000
def rdB (p : ByteArray) (s : Rd) : Blk := ⟨[[.str (p.extract s.o p.size), .bool s.b]], 2, 268⟩
theorem sk_few {p : ByteArray} {s : Rd} {n : Int} (h : s.few p n) : s.sk p n = ⟨s.o, true⟩ := if_pos h
theorem sk_many {p : ByteArray} {s : Rd} {n : Int} (h : ¬ s.few p n) : s.sk p n = ⟨s.o + n.toNat, false⟩ := if_neg h
theorem tk_few {p : ByteArray} {s : Rd} {n : Int} (h : s.few p n) : s.tk p n = ⟨#[]⟩ := if_pos h
theorem tk_many {p : ByteArray} {s : Rd} {n : Int} (h : ¬ s.few p n) : s.tk p n = p.extract s.o (s.o + n.toNat) := if_neg h
theorem o270 (p : ByteArray) (s : Rd) (hs : s.o ≤ p.size) (k : Int) (hk : 0 ≤ k) {id : Nat} {h : Heap} {n : Nat} (hid : id < n) (hh : h id = some (rdB p s)) : V.Open En 270 [.ptr id 0 0, .int .i64 k] h n (.str (s.tk p k)) [(id, some (rdB p (s.sk p k)))] n := by
 have hz : (p.extract s.o p.size).size = p.size - s.o := C5 (Nat.le_refl _)
 unfold rdB at hh
 refine V.Open.of_ev (st := []) Tryz.func270 rfl kb ?_
 refine A4 ?_
 refine brB ?_ ?_ <;> intro h1_3
 ·(apply est (u := .bool _) j3; exact Q0; rfl; exact j4; exact kb; rfl)
  have hf : s.few p k := (by first | exact .inl h1_3 | exact .inr (by omega))
  rw [tk_few hf, sk_few hf]
  exact G9 rfl rfl (fun hz j b hj => by
   by_cases e : j = id
   ·subst e; simp (disch := omega) only [↓app0, ↓appC, ↓updS, ↓updN] at hj ⊢; exact hj
   ·have hj2 : h j = some b := (upd_ne h _ e).symm.trans hj
    have : j < n := by
     rcases Nat.lt_or_ge j n with h1 | h1
     ·exact h1
     ·rw [hz j h1] at hj2; cases hj2
    simp (disch := omega) only [↓app0, ↓appC, ↓updN]; exact hj2) (Nat.le_refl _)
 ·refine A4 ?_
  refine br ?_ ?_ <;> intro h1_11
  ·(apply est (u := .bool _) j3; exact Q0; rfl; exact j4; exact kb; rfl)
   have hf : s.few p k := (by first | exact .inl h1_3 | exact .inr (by omega))
   rw [tk_few hf, sk_few hf]
   exact G9 rfl rfl (fun hz j b hj => by
    by_cases e : j = id
    ·subst e; simp (disch := omega) only [↓app0, ↓appC, ↓updS, ↓updN] at hj ⊢; exact hj
    ·have hj2 : h j = some b := (upd_ne h _ e).symm.trans hj
     have : j < n := by
      rcases Nat.lt_or_ge j n with h1 | h1
      ·exact h1
      ·rw [hz j h1] at hj2; cases hj2
     simp (disch := omega) only [↓app0, ↓appC, ↓updN]; exact hj2) (Nat.le_refl _)
  ·refine A4 ?_
   refine C2 ?_
   refine A4 ?_
   refine C2 ?_
   (apply est (u := .str _) j3; exact Q0; rfl; exact j4; exact kb; rfl)
   have hf : ¬ s.few p k := (fun e => e.elim (fun e => by rw [h1_3] at e; cases e) (fun e => by omega))
   rw [tk_many hf, sk_many hf]
   have e1 : (p.extract s.o p.size).extract 0 k.toNat = p.extract s.o (s.o + k.toNat) := P9 (by omega)
   have e2 : (p.extract s.o p.size).extract k.toNat (p.size - s.o) = p.extract (s.o + k.toNat) p.size := by rw [P9 (by omega)]; congr 1; omega
   have e3 : rdB p ⟨s.o + k.toNat, false⟩ = ⟨[[.str ((p.extract s.o p.size).extract k.toNat ((p.extract s.o p.size).size : Int).toNat), .bool s.b]], 2, 268⟩ := by
    unfold rdB; dsimp only; rw [h1_3, Int.toNat_natCast, hz, e2]
   rw [← e1, e3]
   exact G9 rfl rfl (fun hz j b hj => by
    by_cases e : j = id
    ·subst e; simp (disch := omega) only [↓app0, ↓appC, ↓updS, ↓updN] at hj ⊢; exact hj
    ·have hj2 : h j = some b := (upd_ne h _ e).symm.trans hj
     have : j < n := by
      rcases Nat.lt_or_ge j n with h1 | h1
      ·exact h1
      ·rw [hz j h1] at hj2; cases hj2
     simp (disch := omega) only [↓app0, ↓appC, ↓updN]; exact hj2) (Nat.le_refl _)
open Go.V
set_option linter.unusedVariables false
set_option linter.unusedSimpArgs false
set_option maxRecDepth 20000
set_option maxHeartbeats 4000000
theorem U7 {E : Env} {sz : Nat} {k : Code} {t : Nat → V} {h : Heap} {n : Nat} {Q : Post} (w : ∀ g, g = h → WL E sz k t g n Q) : WL E sz k t h n Q := w h rfl
theorem strRow {q : ByteArray} {i : Nat} (h : i < q.size) : (q.data.toList.map fun b => [V.int .u8 (b.toNat : Int)])[0 + i]? = some [.int .u8 (bt q i)] := by
 have h2 : i < q.data.toList.length := h
 rw [Nat.zero_add, List.getElem?_map, List.getElem?_eq_getElem h2]
 unfold bt
 rw [List.getElem?_eq_getElem h2]; rfl
theorem num_s (p : ByteArray) (i : Nat) : num p 0 (i + 1) = num p 0 i * 256 + bt p i := by show num p 0 i * 256 + bt p (0 + i) = _; rw [Nat.zero_add]
theorem nm_tk {p : ByteArray} {s : Rd} {k : Nat} (hs : s.o ≤ p.size) : num (s.tk p k) 0 (s.tk p k).size = s.nm p k := by
 by_cases h : s.few p k
 ·rw [tk_few h, Rd.nm_no h]; rfl
 ·have h2 : s.o + k ≤ p.size := by unfold Rd.few at h; simp only [not_or] at h; omega
  rw [tk_many h, Int.toNat_natCast, C5 h2, Nat.add_sub_cancel_left, F0 h2 (by omega)]
  exact (if_neg h).symm
theorem tk_sz {p : ByteArray} {s : Rd} {k : Nat} (hs : s.o ≤ p.size) : (s.tk p k).size ≤ k := by
 by_cases h : s.few p k
 ·rw [tk_few h]; exact Nat.zero_le _
 ·have h2 : s.o + k ≤ p.size := by unfold Rd.few at h; simp only [not_or] at h; omega
  rw [tk_many h, Int.toNat_natCast, C5 h2]; omega
theorem O1 (p : ByteArray) (s : Rd) (hs : s.o ≤ p.size) (k : Nat) (hk : k ≤ 6) {id : Nat} {h : Heap} {n : Nat} (hid : id < n) (hh : h id = some (rdB p s)) : V.Open En 214 [.ptr id 0 0, .int .i64 k] h n (.int .i64 (s.nm p k)) [(id, some (rdB p (s.sk p k)))] (n + 1) := by
 have hsz := tk_sz (k := k) hs
 have hor : ∀ {i : Nat}, i < (s.tk p k).size → V.int .i64 (bits .or .i64 (IntKind.i64.wrap (num (s.tk p k) 0 i * 2 ^ (min (8 : Int).toNat IntKind.i64.bits))) (bt (s.tk p k) i)) = V.int .i64 (num (s.tk p k) 0 (i + 1)) := fun {i} hi => by
  rw [num_s]
  have h1 := num_lt (s.tk p k) 0 i (by omega)
  have h2 := E7 (s.tk p k) i
  exact congrArg (V.int .i64) (or8 (K3 _ _ _) (by omega) (U4 _ _) (by omega))
 refine V.Open.of_ev (st := []) Tryz.func214 rfl kb ?_
 refine N3 (o270 p s hs k (by omega) hid hh) rfl rfl rfl ?_
 refine ebt j5 ?_
 refine U7 fun g0 hg0 => ?_
 have hgb : g0 n = some ⟨(s.tk p k).data.toList.map fun b => [V.int .u8 (b.toNat : Int)], 1, 5⟩ := by rw [hg0]; exact Q0
 have hgi : g0 id = some (rdB p (s.sk p k)) := by rw [hg0]; (simp (disch := omega) only [↓app0, ↓appC, ↓updS, ↓updN]) <;> rfl
 have hgo : ∀ j, j < n → ¬ j = id → g0 j = h j := fun j hj hn => by rw [hg0]; (simp (disch := omega) only [↓app0, ↓appC, ↓updS, ↓updN])
 refine A9 (fun (i : Nat) => [.unk, .unk, .unk, .unk, .unk, .int .i64 (num (s.tk p k) 0 i), .unk, .unk, .unk, .unk, .unk, .view n 0 (s.tk p k).size, .int .i64 (s.tk p k).size, .int .i64 i]) (fun (i : Nat) => g0) (fun (i : Nat) => n + 1) (fun (i : Nat) => i ≤ (s.tk p k).size) (fun (i : Nat) => (s.tk p k).size - i) 0 ?_ ?_ ?_ ?_ ?_
 ·exact Nat.zero_le _
 ·(repeat first | exact LE.nil _ | refine LE.unk _ _ ?_ | refine LE.eq _ _ _ rfl ?_)
 ·exact LessH.refl _
 ·exact Nat.le_refl _
 intro i hI ih
 refine A7 (st := []) ?_
 refine br ?_ ?_ <;> intro h3_0
 ·(refine mem (by exact Q0) ⟨rfl, sd (by exact ⟨by exact Q7, by exact Q7⟩) ?_⟩)
  refine A4 ?_ (by exact Q0) (by (first | rfl | exact strRow (by omega) | assumption))
  refine sd (by exact Q7) ?_
  refine cvF ⟨by exact Q30, by exact Q30⟩ ?_
  refine D6 ⟨by exact Q7, by exact Q7⟩ ?_
  exact C6 (ih (i + 1) (by omega) (by omega)) (by (repeat first | exact LE.nil _ | refine LE.unk _ _ ?_ | refine LE.eq _ _ _ rfl ?_ | refine LE.eq _ _ _ (hor (i := i) (by omega)) ?_)) (LessH.refl _) (Nat.le_refl _)
 ·obtain rfl : i = (s.tk p k).size := by omega
  rw [← nm_tk hs]
  exact G9 rfl rfl (leWr (fun j hj => by rw [List.mem_singleton.1 hj]; exact hgi.trans (by (simp (disch := omega) only [↓app0, ↓appC, ↓updS, ↓updN]))) (fun j hj hn => by (try simp only [List.map_cons, List.map_nil, List.mem_singleton] at hn); exact hgo j hj hn)) (Nat.le_refl _)
open Go.V
set_option linter.unusedVariables false
set_option linter.unusedSimpArgs false
set_option maxRecDepth 20000
set_option maxHeartbeats 4000000
def Rq.V (r : Rq) : List V := [.int .i64 r.cl, .int .i64 r.st, .int .i64 r.kd, .int .i64 r.le, .str r.nm]
theorem L4 {p : ByteArray} {o : Nat} (h : o ≤ p.size) : p.extract o p.size = ⟨#[]⟩ ↔ o = p.size := by
 constructor
 ·intro e
  have := C5 (p := p) (a := o) (Nat.le_refl p.size)
  rw [e] at this
  have e2 : (ByteArray.mk #[]).size = 0 := rfl
  omega
 ·rintro rfl; exact ext_nil p p.size
theorem o215 (p : ByteArray) (s : Rd) (hs : s.o ≤ p.size) (k : Nat) (hk : k ≤ 6) {id : Nat} {h : Heap} {n : Nat} (hid : id < n) (hh : h id = some (rdB p s)) : V.Open En 215 [.ptr id 0 0, .int .i64 k] h n (.str (s.tkz p k)) [(id, some (rdB p (s.skz p k)))] (n + 1) := by
 refine V.Open.of_ev (st := []) Tryz.func215 rfl kb ?_
 refine N3 (O1 p s hs k hk hid hh) rfl rfl rfl ?_
 refine N3 (o270 p (s.sk p k) (Rd.sk_le hs (by omega)) (s.nm p k) (Rd.nm_0 _ _ _) ?_ ?_) rfl rfl rfl ?_
 ·exact F9
 ·exact F9
 exact G9 rfl rfl (leWr (fun j hj => by rw [List.mem_singleton.1 hj]; (simp (disch := omega) only [↓app0, ↓appC, ↓updS, ↓updN]) <;> rfl) (fun j hj hn => by (try simp only [List.map_cons, List.map_nil, List.mem_singleton] at hn); (simp (disch := omega) only [↓app0, ↓appC, ↓updS, ↓updN]))) (Nat.le_refl _)
noncomputable instance dcDone (p : ByteArray) (s : Rd) : Decidable (s.done p) := Classical.propDecidable _
theorem o216 (p : ByteArray) (s : Rd) (hs : s.o ≤ p.size) {id : Nat} {h : Heap} {n : Nat} (hid : id < n) (hh : h id = some (rdB p s)) : V.Open En 216 [.ptr id 0 0] h n (.bool (decide (s.done p))) [] n := by
 unfold rdB at hh
 refine V.Open.of_ev (st := []) Tryz.func216 rfl kb ?_
 refine A4 ?_
 refine brB ?_ ?_ <;> intro h1_3
 ·first
  | (rw [decide_eq_true (show s.done p from ⟨h1_3, (L4 hs).1 h1_10⟩)]; exact G9 rfl rfl (fun _ _ _ e => e) (Nat.le_refl _))
  | (rw [decide_eq_false (show ¬ s.done p from fun e => h1_10 ((L4 hs).2 e.2))]; exact G9 rfl rfl (fun _ _ _ e => e) (Nat.le_refl _))
  | (rw [decide_eq_false (show ¬ s.done p from fun e => by have q := e.1; rw [h1_3] at q; cases q)]; exact G9 rfl rfl (fun _ _ _ e => e) (Nat.le_refl _))
 ·refine A4 ?_
  refine br ?_ ?_ <;> intro h1_10
  ·first
   | (rw [decide_eq_true (show s.done p from ⟨h1_3, (L4 hs).1 h1_10⟩)]; exact G9 rfl rfl (fun _ _ _ e => e) (Nat.le_refl _))
   | (rw [decide_eq_false (show ¬ s.done p from fun e => h1_10 ((L4 hs).2 e.2))]; exact G9 rfl rfl (fun _ _ _ e => e) (Nat.le_refl _))
   | (rw [decide_eq_false (show ¬ s.done p from fun e => by have q := e.1; rw [h1_3] at q; cases q)]; exact G9 rfl rfl (fun _ _ _ e => e) (Nat.le_refl _))
  ·first
   | (rw [decide_eq_true (show s.done p from ⟨h1_3, (L4 hs).1 h1_10⟩)]; exact G9 rfl rfl (fun _ _ _ e => e) (Nat.le_refl _))
   | (rw [decide_eq_false (show ¬ s.done p from fun e => h1_10 ((L4 hs).2 e.2))]; exact G9 rfl rfl (fun _ _ _ e => e) (Nat.le_refl _))
   | (rw [decide_eq_false (show ¬ s.done p from fun e => by have q := e.1; rw [h1_3] at q; cases q)]; exact G9 rfl rfl (fun _ _ _ e => e) (Nat.le_refl _))
theorem o273 (p : ByteArray) (s : Rd) (hs : s.o ≤ p.size) {id : Nat} {h : Heap} {n : Nat} (hid : id < n) (hh : h id = some (rdB p s)) : V.Open En 273 [.ptr id 0 0] h n (.agg (rqV p s).V) [(id, some (rdB p (rqS p s)))] (n + 6) := by
 refine V.Open.of_ev (st := []) Tryz.func273 rfl kb ?_
 refine N3 (O1 p s hs 1 (by omega) ?_ ?_) rfl rfl rfl ?_
 ·exact F9
 ·exact F9
 refine N3 (O1 p (s.sk p 1) (Rd.sk_le hs (by omega)) 2 (by omega) ?_ ?_) rfl rfl rfl ?_
 ·exact F9
 ·exact F9
 refine N3 (O1 p ((s.sk p 1).sk p 2) (Rd.sk_le (Rd.sk_le hs (by omega)) (by omega)) 1 (by omega) ?_ ?_) rfl rfl rfl ?_
 ·exact F9
 ·exact F9
 refine N3 (O1 p (((s.sk p 1).sk p 2).sk p 1) (Rd.sk_le (Rd.sk_le (Rd.sk_le hs (by omega)) (by omega)) (by omega)) 2 (by omega) ?_ ?_) rfl rfl rfl ?_
 ·exact F9
 ·exact F9
 refine N3 (o215 p ((((s.sk p 1).sk p 2).sk p 1).sk p 2) (Rd.sk_le (Rd.sk_le (Rd.sk_le (Rd.sk_le hs (by omega)) (by omega)) (by omega)) (by omega)) 1 (by omega) ?_ ?_) rfl rfl rfl ?_
 ·exact F9
 ·exact F9
 (apply est (u := .agg [.int _ _, .int _ _, .int _ _, .int _ _, .str _]) j3; exact Q0; rfl; exact j4; exact kb; rfl)
 exact G9 (A0 (A2 rfl (by exact Q0) j2 kb rfl) A1) rfl (leWr (fun j hj => by rw [List.mem_singleton.1 hj]; (simp (disch := omega) only [↓app0, ↓appC, ↓updS, ↓updN]) <;> rfl) (fun j hj hn => by (try simp only [List.map_cons, List.map_nil, List.mem_singleton] at hn); (simp (disch := omega) only [↓app0, ↓appC, ↓updS, ↓updN]))) (Nat.le_refl _)
open Go.V
set_option linter.unusedVariables false
set_option linter.unusedSimpArgs false
set_option maxRecDepth 20000
set_option maxHeartbeats 4000000
noncomputable instance dcRqZ (r : Rq) : Decidable (r = RqZ) := Classical.propDecidable _
theorem eqRqZ (r : Rq) : eqV En.P 10000 163 (.agg r.V) (.agg RqZ.V) = some (decide (r = RqZ)) := by
 have h : eqV En.P 10000 163 (.agg r.V) (.agg RqZ.V) = some ((r.cl == 0) && ((r.st == 0) && ((r.kd == 0) && ((r.le == 0) && ((r.nm.toList == (ByteArray.mk #[]).toList) && true))))) := by kernel_rfl
 rw [h, AA]
 congr 1
 obtain ⟨a, b, c, d, e⟩ := r
 unfold RqZ
 by_cases h1 : a = 0 <;> by_cases h2 : b = 0 <;> by_cases h3 : c = 0 <;> by_cases h4 : d = 0 <;> by_cases h5 : e = ⟨#[]⟩ <;> simp [h1, h2, h3, h4, h5]
theorem s275 (r : Rg) : Pure En 275 [.agg r.T] [.one (.bool (decide r.OK))] := by
 refine Pure.of_ev (st := []) Tryz.func275 rfl kb ?_
 refine A4 ?_
 refine B6 (p12 _ _ _) rfl j2 ?_ ?_ <;> intro h1_2
 ·refine A4 ?_
  refine B6 (p12 _ _ _) rfl j2 ?_ ?_ <;> intro h1_6
  ·refine A4 ?_
   refine br ?_ ?_ <;> intro h1_12
   ·first | (refine B4 rfl ?_; unfold Rg.OK; omega) | (refine B3 rfl ?_; unfold Rg.OK; omega)
   ·first | (refine B4 rfl ?_; unfold Rg.OK; omega) | (refine B3 rfl ?_; unfold Rg.OK; omega)
  ·first | (refine B4 rfl ?_; unfold Rg.OK; omega) | (refine B3 rfl ?_; unfold Rg.OK; omega)
 ·first | (refine B4 rfl ?_; unfold Rg.OK; omega) | (refine B3 rfl ?_; unfold Rg.OK; omega)
theorem s208 (s : ByteArray) : Pure En 189 [.one (.str s)] [.one (.bool (decide (s.size = 32)))] := by
 refine Pure.of_ev (st := []) Tryz.func189 rfl kb ?_
 refine br ?_ ?_ <;> intro h1_2
 ·first | (refine B4 rfl ?_; omega) | (refine B3 rfl ?_; omega)
 ·first | (refine B4 rfl ?_; omega) | (refine B3 rfl ?_; omega)
theorem s136 (m : Msg) : Pure En 123 [.agg m.T] [.one (.bool (decide m.OK))] := by
 refine Pure.of_ev (st := []) Tryz.func123 rfl kb ?_
 refine A4 ?_
 refine B6 (p12 _ _ _) rfl j2 ?_ ?_ <;> intro h1_2
 ·refine A4 ?_
  refine B6 (p12 _ _ _) rfl j2 ?_ ?_ <;> intro h1_7
  ·refine A4 ?_
   refine br ?_ ?_ <;> intro h1_14
   ·first
    | (refine B4 rfl ?_; unfold Msg.OK; refine ⟨by omega, by omega, by omega, by omega, by omega, ?_⟩; first | (rw [if_pos (by omega)]; exact ⟨by omega, by omega, (by constructor <;> intro q <;> first | assumption | exact absurd q (by assumption) | omega)⟩) | (rw [if_neg (by omega)]; exact ⟨by omega, by assumption⟩))
    | (refine B3 rfl (fun e => ?_); unfold Msg.OK at e; obtain ⟨e1, e2, e3, e4, e5, e6⟩ := e; first | omega | (rw [if_pos (by omega)] at e6; obtain ⟨f1, f2, f3⟩ := e6; first | omega | exact absurd (f3.1 (by assumption)) (by assumption) | exact absurd (f3.2 (by assumption)) (by assumption)) | (rw [if_neg (by omega)] at e6; first | omega | exact absurd e6.2 (by assumption)))
   ·refine A4 ?_
    refine br ?_ ?_ <;> intro h1_20
    ·first
     | (refine B4 rfl ?_; unfold Msg.OK; refine ⟨by omega, by omega, by omega, by omega, by omega, ?_⟩; first | (rw [if_pos (by omega)]; exact ⟨by omega, by omega, (by constructor <;> intro q <;> first | assumption | exact absurd q (by assumption) | omega)⟩) | (rw [if_neg (by omega)]; exact ⟨by omega, by assumption⟩))
     | (refine B3 rfl (fun e => ?_); unfold Msg.OK at e; obtain ⟨e1, e2, e3, e4, e5, e6⟩ := e; first | omega | (rw [if_pos (by omega)] at e6; obtain ⟨f1, f2, f3⟩ := e6; first | omega | exact absurd (f3.1 (by assumption)) (by assumption) | exact absurd (f3.2 (by assumption)) (by assumption)) | (rw [if_neg (by omega)] at e6; first | omega | exact absurd e6.2 (by assumption)))
    ·refine A4 ?_
     refine br ?_ ?_ <;> intro h4_0
     ·refine A4 ?_
      refine B6 (p12 _ _ _) rfl j2 ?_ ?_ <;> intro h7_2
      ·refine A4 ?_
       refine B6 (s208 _) rfl j2 ?_ ?_ <;> intro h7_6
       ·refine A4 ?_
        refine br ?_ ?_ <;> intro h7_11
        ·refine A4 ?_
         refine br ?_ ?_ <;> intro h7_14
         ·first
          | (refine B4 rfl ?_; unfold Msg.OK; refine ⟨by omega, by omega, by omega, by omega, by omega, ?_⟩; first | (rw [if_pos (by omega)]; exact ⟨by omega, by omega, (by constructor <;> intro q <;> first | assumption | exact absurd q (by assumption) | omega)⟩) | (rw [if_neg (by omega)]; exact ⟨by omega, by assumption⟩))
          | (refine B3 rfl (fun e => ?_); unfold Msg.OK at e; obtain ⟨e1, e2, e3, e4, e5, e6⟩ := e; first | omega | (rw [if_pos (by omega)] at e6; obtain ⟨f1, f2, f3⟩ := e6; first | omega | exact absurd (f3.1 (by assumption)) (by assumption) | exact absurd (f3.2 (by assumption)) (by assumption)) | (rw [if_neg (by omega)] at e6; first | omega | exact absurd e6.2 (by assumption)))
         ·first
          | (refine B4 rfl ?_; unfold Msg.OK; refine ⟨by omega, by omega, by omega, by omega, by omega, ?_⟩; first | (rw [if_pos (by omega)]; exact ⟨by omega, by omega, (by constructor <;> intro q <;> first | assumption | exact absurd q (by assumption) | omega)⟩) | (rw [if_neg (by omega)]; exact ⟨by omega, by assumption⟩))
          | (refine B3 rfl (fun e => ?_); unfold Msg.OK at e; obtain ⟨e1, e2, e3, e4, e5, e6⟩ := e; first | omega | (rw [if_pos (by omega)] at e6; obtain ⟨f1, f2, f3⟩ := e6; first | omega | exact absurd (f3.1 (by assumption)) (by assumption) | exact absurd (f3.2 (by assumption)) (by assumption)) | (rw [if_neg (by omega)] at e6; first | omega | exact absurd e6.2 (by assumption)))
        ·refine A4 ?_
         refine br ?_ ?_ <;> intro h7_14
         ·first
          | (refine B4 rfl ?_; unfold Msg.OK; refine ⟨by omega, by omega, by omega, by omega, by omega, ?_⟩; first | (rw [if_pos (by omega)]; exact ⟨by omega, by omega, (by constructor <;> intro q <;> first | assumption | exact absurd q (by assumption) | omega)⟩) | (rw [if_neg (by omega)]; exact ⟨by omega, by assumption⟩))
          | (refine B3 rfl (fun e => ?_); unfold Msg.OK at e; obtain ⟨e1, e2, e3, e4, e5, e6⟩ := e; first | omega | (rw [if_pos (by omega)] at e6; obtain ⟨f1, f2, f3⟩ := e6; first | omega | exact absurd (f3.1 (by assumption)) (by assumption) | exact absurd (f3.2 (by assumption)) (by assumption)) | (rw [if_neg (by omega)] at e6; first | omega | exact absurd e6.2 (by assumption)))
         ·first
          | (refine B4 rfl ?_; unfold Msg.OK; refine ⟨by omega, by omega, by omega, by omega, by omega, ?_⟩; first | (rw [if_pos (by omega)]; exact ⟨by omega, by omega, (by constructor <;> intro q <;> first | assumption | exact absurd q (by assumption) | omega)⟩) | (rw [if_neg (by omega)]; exact ⟨by omega, by assumption⟩))
          | (refine B3 rfl (fun e => ?_); unfold Msg.OK at e; obtain ⟨e1, e2, e3, e4, e5, e6⟩ := e; first | omega | (rw [if_pos (by omega)] at e6; obtain ⟨f1, f2, f3⟩ := e6; first | omega | exact absurd (f3.1 (by assumption)) (by assumption) | exact absurd (f3.2 (by assumption)) (by assumption)) | (rw [if_neg (by omega)] at e6; first | omega | exact absurd e6.2 (by assumption)))
       ·first
        | (refine B4 rfl ?_; unfold Msg.OK; refine ⟨by omega, by omega, by omega, by omega, by omega, ?_⟩; first | (rw [if_pos (by omega)]; exact ⟨by omega, by omega, (by constructor <;> intro q <;> first | assumption | exact absurd q (by assumption) | omega)⟩) | (rw [if_neg (by omega)]; exact ⟨by omega, by assumption⟩))
        | (refine B3 rfl (fun e => ?_); unfold Msg.OK at e; obtain ⟨e1, e2, e3, e4, e5, e6⟩ := e; first | omega | (rw [if_pos (by omega)] at e6; obtain ⟨f1, f2, f3⟩ := e6; first | omega | exact absurd (f3.1 (by assumption)) (by assumption) | exact absurd (f3.2 (by assumption)) (by assumption)) | (rw [if_neg (by omega)] at e6; first | omega | exact absurd e6.2 (by assumption)))
      ·first
       | (refine B4 rfl ?_; unfold Msg.OK; refine ⟨by omega, by omega, by omega, by omega, by omega, ?_⟩; first | (rw [if_pos (by omega)]; exact ⟨by omega, by omega, (by constructor <;> intro q <;> first | assumption | exact absurd q (by assumption) | omega)⟩) | (rw [if_neg (by omega)]; exact ⟨by omega, by assumption⟩))
       | (refine B3 rfl (fun e => ?_); unfold Msg.OK at e; obtain ⟨e1, e2, e3, e4, e5, e6⟩ := e; first | omega | (rw [if_pos (by omega)] at e6; obtain ⟨f1, f2, f3⟩ := e6; first | omega | exact absurd (f3.1 (by assumption)) (by assumption) | exact absurd (f3.2 (by assumption)) (by assumption)) | (rw [if_neg (by omega)] at e6; first | omega | exact absurd e6.2 (by assumption)))
     ·refine br ?_ ?_ <;> intro h5_0
      ·refine A4 ?_
       refine B6 (p12 _ _ _) rfl j2 ?_ ?_ <;> intro h7_2
       ·refine A4 ?_
        refine B6 (s208 _) rfl j2 ?_ ?_ <;> intro h7_6
        ·refine A4 ?_
         refine br ?_ ?_ <;> intro h7_11
         ·refine A4 ?_
          refine br ?_ ?_ <;> intro h7_14
          ·first
           | (refine B4 rfl ?_; unfold Msg.OK; refine ⟨by omega, by omega, by omega, by omega, by omega, ?_⟩; first | (rw [if_pos (by omega)]; exact ⟨by omega, by omega, (by constructor <;> intro q <;> first | assumption | exact absurd q (by assumption) | omega)⟩) | (rw [if_neg (by omega)]; exact ⟨by omega, by assumption⟩))
           | (refine B3 rfl (fun e => ?_); unfold Msg.OK at e; obtain ⟨e1, e2, e3, e4, e5, e6⟩ := e; first | omega | (rw [if_pos (by omega)] at e6; obtain ⟨f1, f2, f3⟩ := e6; first | omega | exact absurd (f3.1 (by assumption)) (by assumption) | exact absurd (f3.2 (by assumption)) (by assumption)) | (rw [if_neg (by omega)] at e6; first | omega | exact absurd e6.2 (by assumption)))
          ·first
           | (refine B4 rfl ?_; unfold Msg.OK; refine ⟨by omega, by omega, by omega, by omega, by omega, ?_⟩; first | (rw [if_pos (by omega)]; exact ⟨by omega, by omega, (by constructor <;> intro q <;> first | assumption | exact absurd q (by assumption) | omega)⟩) | (rw [if_neg (by omega)]; exact ⟨by omega, by assumption⟩))
           | (refine B3 rfl (fun e => ?_); unfold Msg.OK at e; obtain ⟨e1, e2, e3, e4, e5, e6⟩ := e; first | omega | (rw [if_pos (by omega)] at e6; obtain ⟨f1, f2, f3⟩ := e6; first | omega | exact absurd (f3.1 (by assumption)) (by assumption) | exact absurd (f3.2 (by assumption)) (by assumption)) | (rw [if_neg (by omega)] at e6; first | omega | exact absurd e6.2 (by assumption)))
         ·refine A4 ?_
          refine br ?_ ?_ <;> intro h7_14
          ·first
           | (refine B4 rfl ?_; unfold Msg.OK; refine ⟨by omega, by omega, by omega, by omega, by omega, ?_⟩; first | (rw [if_pos (by omega)]; exact ⟨by omega, by omega, (by constructor <;> intro q <;> first | assumption | exact absurd q (by assumption) | omega)⟩) | (rw [if_neg (by omega)]; exact ⟨by omega, by assumption⟩))
           | (refine B3 rfl (fun e => ?_); unfold Msg.OK at e; obtain ⟨e1, e2, e3, e4, e5, e6⟩ := e; first | omega | (rw [if_pos (by omega)] at e6; obtain ⟨f1, f2, f3⟩ := e6; first | omega | exact absurd (f3.1 (by assumption)) (by assumption) | exact absurd (f3.2 (by assumption)) (by assumption)) | (rw [if_neg (by omega)] at e6; first | omega | exact absurd e6.2 (by assumption)))
          ·first
           | (refine B4 rfl ?_; unfold Msg.OK; refine ⟨by omega, by omega, by omega, by omega, by omega, ?_⟩; first | (rw [if_pos (by omega)]; exact ⟨by omega, by omega, (by constructor <;> intro q <;> first | assumption | exact absurd q (by assumption) | omega)⟩) | (rw [if_neg (by omega)]; exact ⟨by omega, by assumption⟩))
           | (refine B3 rfl (fun e => ?_); unfold Msg.OK at e; obtain ⟨e1, e2, e3, e4, e5, e6⟩ := e; first | omega | (rw [if_pos (by omega)] at e6; obtain ⟨f1, f2, f3⟩ := e6; first | omega | exact absurd (f3.1 (by assumption)) (by assumption) | exact absurd (f3.2 (by assumption)) (by assumption)) | (rw [if_neg (by omega)] at e6; first | omega | exact absurd e6.2 (by assumption)))
        ·first
         | (refine B4 rfl ?_; unfold Msg.OK; refine ⟨by omega, by omega, by omega, by omega, by omega, ?_⟩; first | (rw [if_pos (by omega)]; exact ⟨by omega, by omega, (by constructor <;> intro q <;> first | assumption | exact absurd q (by assumption) | omega)⟩) | (rw [if_neg (by omega)]; exact ⟨by omega, by assumption⟩))
         | (refine B3 rfl (fun e => ?_); unfold Msg.OK at e; obtain ⟨e1, e2, e3, e4, e5, e6⟩ := e; first | omega | (rw [if_pos (by omega)] at e6; obtain ⟨f1, f2, f3⟩ := e6; first | omega | exact absurd (f3.1 (by assumption)) (by assumption) | exact absurd (f3.2 (by assumption)) (by assumption)) | (rw [if_neg (by omega)] at e6; first | omega | exact absurd e6.2 (by assumption)))
       ·first
        | (refine B4 rfl ?_; unfold Msg.OK; refine ⟨by omega, by omega, by omega, by omega, by omega, ?_⟩; first | (rw [if_pos (by omega)]; exact ⟨by omega, by omega, (by constructor <;> intro q <;> first | assumption | exact absurd q (by assumption) | omega)⟩) | (rw [if_neg (by omega)]; exact ⟨by omega, by assumption⟩))
        | (refine B3 rfl (fun e => ?_); unfold Msg.OK at e; obtain ⟨e1, e2, e3, e4, e5, e6⟩ := e; first | omega | (rw [if_pos (by omega)] at e6; obtain ⟨f1, f2, f3⟩ := e6; first | omega | exact absurd (f3.1 (by assumption)) (by assumption) | exact absurd (f3.2 (by assumption)) (by assumption)) | (rw [if_neg (by omega)] at e6; first | omega | exact absurd e6.2 (by assumption)))
      ·refine br ?_ ?_ <;> intro h6_0
       ·refine A4 ?_
        refine B6 (p12 _ _ _) rfl j2 ?_ ?_ <;> intro h7_2
        ·refine A4 ?_
         refine B6 (s208 _) rfl j2 ?_ ?_ <;> intro h7_6
         ·refine A4 ?_
          refine br ?_ ?_ <;> intro h7_11
          ·refine A4 ?_
           refine br ?_ ?_ <;> intro h7_14
           ·first
            | (refine B4 rfl ?_; unfold Msg.OK; refine ⟨by omega, by omega, by omega, by omega, by omega, ?_⟩; first | (rw [if_pos (by omega)]; exact ⟨by omega, by omega, (by constructor <;> intro q <;> first | assumption | exact absurd q (by assumption) | omega)⟩) | (rw [if_neg (by omega)]; exact ⟨by omega, by assumption⟩))
            | (refine B3 rfl (fun e => ?_); unfold Msg.OK at e; obtain ⟨e1, e2, e3, e4, e5, e6⟩ := e; first | omega | (rw [if_pos (by omega)] at e6; obtain ⟨f1, f2, f3⟩ := e6; first | omega | exact absurd (f3.1 (by assumption)) (by assumption) | exact absurd (f3.2 (by assumption)) (by assumption)) | (rw [if_neg (by omega)] at e6; first | omega | exact absurd e6.2 (by assumption)))
           ·first
            | (refine B4 rfl ?_; unfold Msg.OK; refine ⟨by omega, by omega, by omega, by omega, by omega, ?_⟩; first | (rw [if_pos (by omega)]; exact ⟨by omega, by omega, (by constructor <;> intro q <;> first | assumption | exact absurd q (by assumption) | omega)⟩) | (rw [if_neg (by omega)]; exact ⟨by omega, by assumption⟩))
            | (refine B3 rfl (fun e => ?_); unfold Msg.OK at e; obtain ⟨e1, e2, e3, e4, e5, e6⟩ := e; first | omega | (rw [if_pos (by omega)] at e6; obtain ⟨f1, f2, f3⟩ := e6; first | omega | exact absurd (f3.1 (by assumption)) (by assumption) | exact absurd (f3.2 (by assumption)) (by assumption)) | (rw [if_neg (by omega)] at e6; first | omega | exact absurd e6.2 (by assumption)))
          ·refine A4 ?_
           refine br ?_ ?_ <;> intro h7_14
           ·first
            | (refine B4 rfl ?_; unfold Msg.OK; refine ⟨by omega, by omega, by omega, by omega, by omega, ?_⟩; first | (rw [if_pos (by omega)]; exact ⟨by omega, by omega, (by constructor <;> intro q <;> first | assumption | exact absurd q (by assumption) | omega)⟩) | (rw [if_neg (by omega)]; exact ⟨by omega, by assumption⟩))
            | (refine B3 rfl (fun e => ?_); unfold Msg.OK at e; obtain ⟨e1, e2, e3, e4, e5, e6⟩ := e; first | omega | (rw [if_pos (by omega)] at e6; obtain ⟨f1, f2, f3⟩ := e6; first | omega | exact absurd (f3.1 (by assumption)) (by assumption) | exact absurd (f3.2 (by assumption)) (by assumption)) | (rw [if_neg (by omega)] at e6; first | omega | exact absurd e6.2 (by assumption)))
           ·first
            | (refine B4 rfl ?_; unfold Msg.OK; refine ⟨by omega, by omega, by omega, by omega, by omega, ?_⟩; first | (rw [if_pos (by omega)]; exact ⟨by omega, by omega, (by constructor <;> intro q <;> first | assumption | exact absurd q (by assumption) | omega)⟩) | (rw [if_neg (by omega)]; exact ⟨by omega, by assumption⟩))
            | (refine B3 rfl (fun e => ?_); unfold Msg.OK at e; obtain ⟨e1, e2, e3, e4, e5, e6⟩ := e; first | omega | (rw [if_pos (by omega)] at e6; obtain ⟨f1, f2, f3⟩ := e6; first | omega | exact absurd (f3.1 (by assumption)) (by assumption) | exact absurd (f3.2 (by assumption)) (by assumption)) | (rw [if_neg (by omega)] at e6; first | omega | exact absurd e6.2 (by assumption)))
         ·first
          | (refine B4 rfl ?_; unfold Msg.OK; refine ⟨by omega, by omega, by omega, by omega, by omega, ?_⟩; first | (rw [if_pos (by omega)]; exact ⟨by omega, by omega, (by constructor <;> intro q <;> first | assumption | exact absurd q (by assumption) | omega)⟩) | (rw [if_neg (by omega)]; exact ⟨by omega, by assumption⟩))
          | (refine B3 rfl (fun e => ?_); unfold Msg.OK at e; obtain ⟨e1, e2, e3, e4, e5, e6⟩ := e; first | omega | (rw [if_pos (by omega)] at e6; obtain ⟨f1, f2, f3⟩ := e6; first | omega | exact absurd (f3.1 (by assumption)) (by assumption) | exact absurd (f3.2 (by assumption)) (by assumption)) | (rw [if_neg (by omega)] at e6; first | omega | exact absurd e6.2 (by assumption)))
        ·first
         | (refine B4 rfl ?_; unfold Msg.OK; refine ⟨by omega, by omega, by omega, by omega, by omega, ?_⟩; first | (rw [if_pos (by omega)]; exact ⟨by omega, by omega, (by constructor <;> intro q <;> first | assumption | exact absurd q (by assumption) | omega)⟩) | (rw [if_neg (by omega)]; exact ⟨by omega, by assumption⟩))
         | (refine B3 rfl (fun e => ?_); unfold Msg.OK at e; obtain ⟨e1, e2, e3, e4, e5, e6⟩ := e; first | omega | (rw [if_pos (by omega)] at e6; obtain ⟨f1, f2, f3⟩ := e6; first | omega | exact absurd (f3.1 (by assumption)) (by assumption) | exact absurd (f3.2 (by assumption)) (by assumption)) | (rw [if_neg (by omega)] at e6; first | omega | exact absurd e6.2 (by assumption)))
       ·refine br ?_ ?_ <;> intro h8_0
        ·refine A4 ?_
         refine br ?_ ?_ <;> intro h10_2
         ·refine A4 ?_
          refine br ?_ ?_ <;> intro h10_6
          ·first
           | (refine B4 rfl ?_; unfold Msg.OK; refine ⟨by omega, by omega, by omega, by omega, by omega, ?_⟩; first | (rw [if_pos (by omega)]; exact ⟨by omega, by omega, (by constructor <;> intro q <;> first | assumption | exact absurd q (by assumption) | omega)⟩) | (rw [if_neg (by omega)]; exact ⟨by omega, by assumption⟩))
           | (refine B3 rfl (fun e => ?_); unfold Msg.OK at e; obtain ⟨e1, e2, e3, e4, e5, e6⟩ := e; first | omega | (rw [if_pos (by omega)] at e6; obtain ⟨f1, f2, f3⟩ := e6; first | omega | exact absurd (f3.1 (by assumption)) (by assumption) | exact absurd (f3.2 (by assumption)) (by assumption)) | (rw [if_neg (by omega)] at e6; first | omega | exact absurd e6.2 (by assumption)))
          ·first
           | (refine B4 rfl ?_; unfold Msg.OK; refine ⟨by omega, by omega, by omega, by omega, by omega, ?_⟩; first | (rw [if_pos (by omega)]; exact ⟨by omega, by omega, (by constructor <;> intro q <;> first | assumption | exact absurd q (by assumption) | omega)⟩) | (rw [if_neg (by omega)]; exact ⟨by omega, by assumption⟩))
           | (refine B3 rfl (fun e => ?_); unfold Msg.OK at e; obtain ⟨e1, e2, e3, e4, e5, e6⟩ := e; first | omega | (rw [if_pos (by omega)] at e6; obtain ⟨f1, f2, f3⟩ := e6; first | omega | exact absurd (f3.1 (by assumption)) (by assumption) | exact absurd (f3.2 (by assumption)) (by assumption)) | (rw [if_neg (by omega)] at e6; first | omega | exact absurd e6.2 (by assumption)))
         ·first
          | (refine B4 rfl ?_; unfold Msg.OK; refine ⟨by omega, by omega, by omega, by omega, by omega, ?_⟩; first | (rw [if_pos (by omega)]; exact ⟨by omega, by omega, (by constructor <;> intro q <;> first | assumption | exact absurd q (by assumption) | omega)⟩) | (rw [if_neg (by omega)]; exact ⟨by omega, by assumption⟩))
          | (refine B3 rfl (fun e => ?_); unfold Msg.OK at e; obtain ⟨e1, e2, e3, e4, e5, e6⟩ := e; first | omega | (rw [if_pos (by omega)] at e6; obtain ⟨f1, f2, f3⟩ := e6; first | omega | exact absurd (f3.1 (by assumption)) (by assumption) | exact absurd (f3.2 (by assumption)) (by assumption)) | (rw [if_neg (by omega)] at e6; first | omega | exact absurd e6.2 (by assumption)))
        ·refine br ?_ ?_ <;> intro h9_0
         ·refine A4 ?_
          refine br ?_ ?_ <;> intro h10_2
          ·refine A4 ?_
           refine br ?_ ?_ <;> intro h10_6
           ·first
            | (refine B4 rfl ?_; unfold Msg.OK; refine ⟨by omega, by omega, by omega, by omega, by omega, ?_⟩; first | (rw [if_pos (by omega)]; exact ⟨by omega, by omega, (by constructor <;> intro q <;> first | assumption | exact absurd q (by assumption) | omega)⟩) | (rw [if_neg (by omega)]; exact ⟨by omega, by assumption⟩))
            | (refine B3 rfl (fun e => ?_); unfold Msg.OK at e; obtain ⟨e1, e2, e3, e4, e5, e6⟩ := e; first | omega | (rw [if_pos (by omega)] at e6; obtain ⟨f1, f2, f3⟩ := e6; first | omega | exact absurd (f3.1 (by assumption)) (by assumption) | exact absurd (f3.2 (by assumption)) (by assumption)) | (rw [if_neg (by omega)] at e6; first | omega | exact absurd e6.2 (by assumption)))
           ·first
            | (refine B4 rfl ?_; unfold Msg.OK; refine ⟨by omega, by omega, by omega, by omega, by omega, ?_⟩; first | (rw [if_pos (by omega)]; exact ⟨by omega, by omega, (by constructor <;> intro q <;> first | assumption | exact absurd q (by assumption) | omega)⟩) | (rw [if_neg (by omega)]; exact ⟨by omega, by assumption⟩))
            | (refine B3 rfl (fun e => ?_); unfold Msg.OK at e; obtain ⟨e1, e2, e3, e4, e5, e6⟩ := e; first | omega | (rw [if_pos (by omega)] at e6; obtain ⟨f1, f2, f3⟩ := e6; first | omega | exact absurd (f3.1 (by assumption)) (by assumption) | exact absurd (f3.2 (by assumption)) (by assumption)) | (rw [if_neg (by omega)] at e6; first | omega | exact absurd e6.2 (by assumption)))
          ·first
           | (refine B4 rfl ?_; unfold Msg.OK; refine ⟨by omega, by omega, by omega, by omega, by omega, ?_⟩; first | (rw [if_pos (by omega)]; exact ⟨by omega, by omega, (by constructor <;> intro q <;> first | assumption | exact absurd q (by assumption) | omega)⟩) | (rw [if_neg (by omega)]; exact ⟨by omega, by assumption⟩))
           | (refine B3 rfl (fun e => ?_); unfold Msg.OK at e; obtain ⟨e1, e2, e3, e4, e5, e6⟩ := e; first | omega | (rw [if_pos (by omega)] at e6; obtain ⟨f1, f2, f3⟩ := e6; first | omega | exact absurd (f3.1 (by assumption)) (by assumption) | exact absurd (f3.2 (by assumption)) (by assumption)) | (rw [if_neg (by omega)] at e6; first | omega | exact absurd e6.2 (by assumption)))
         ·first
          | (refine B4 rfl ?_; unfold Msg.OK; refine ⟨by omega, by omega, by omega, by omega, by omega, ?_⟩; first | (rw [if_pos (by omega)]; exact ⟨by omega, by omega, (by constructor <;> intro q <;> first | assumption | exact absurd q (by assumption) | omega)⟩) | (rw [if_neg (by omega)]; exact ⟨by omega, by assumption⟩))
          | (refine B3 rfl (fun e => ?_); unfold Msg.OK at e; obtain ⟨e1, e2, e3, e4, e5, e6⟩ := e; first | omega | (rw [if_pos (by omega)] at e6; obtain ⟨f1, f2, f3⟩ := e6; first | omega | exact absurd (f3.1 (by assumption)) (by assumption) | exact absurd (f3.2 (by assumption)) (by assumption)) | (rw [if_neg (by omega)] at e6; first | omega | exact absurd e6.2 (by assumption)))
  ·first
   | (refine B4 rfl ?_; unfold Msg.OK; refine ⟨by omega, by omega, by omega, by omega, by omega, ?_⟩; first | (rw [if_pos (by omega)]; exact ⟨by omega, by omega, (by constructor <;> intro q <;> first | assumption | exact absurd q (by assumption) | omega)⟩) | (rw [if_neg (by omega)]; exact ⟨by omega, by assumption⟩))
   | (refine B3 rfl (fun e => ?_); unfold Msg.OK at e; obtain ⟨e1, e2, e3, e4, e5, e6⟩ := e; first | omega | (rw [if_pos (by omega)] at e6; obtain ⟨f1, f2, f3⟩ := e6; first | omega | exact absurd (f3.1 (by assumption)) (by assumption) | exact absurd (f3.2 (by assumption)) (by assumption)) | (rw [if_neg (by omega)] at e6; first | omega | exact absurd e6.2 (by assumption)))
 ·first
  | (refine B4 rfl ?_; unfold Msg.OK; refine ⟨by omega, by omega, by omega, by omega, by omega, ?_⟩; first | (rw [if_pos (by omega)]; exact ⟨by omega, by omega, (by constructor <;> intro q <;> first | assumption | exact absurd q (by assumption) | omega)⟩) | (rw [if_neg (by omega)]; exact ⟨by omega, by assumption⟩))
  | (refine B3 rfl (fun e => ?_); unfold Msg.OK at e; obtain ⟨e1, e2, e3, e4, e5, e6⟩ := e; first | omega | (rw [if_pos (by omega)] at e6; obtain ⟨f1, f2, f3⟩ := e6; first | omega | exact absurd (f3.1 (by assumption)) (by assumption) | exact absurd (f3.2 (by assumption)) (by assumption)) | (rw [if_neg (by omega)] at e6; first | omega | exact absurd e6.2 (by assumption)))
theorem s274 (x : Bt) (b : Bool) : Pure En 274 [.agg (x.T b)] [.one (.bool (decide x.OK))] := by
 have hl : (x.rs.map Rg.T).length = x.rs.length := List.length_map ..
 refine Pure.of_ev (st := []) Tryz.func274 rfl kb ?_
 refine A4 ?_
 refine brB ?_ ?_ <;> intro h1_1
 ·(apply D2 (vs := [.int _ _, .int _ _, .int _ _, .int _ _, .str _]) j2; exact Q0; rfl; rfl; exact kb; rfl)
  refine eSeql j3 (by kernel_rfl) (eqRqZ x.rq) ?_ ?_ <;> intro h2_3
  ·refine A4 ?_
   refine br ?_ ?_ <;> intro h2_8
   ·first
    | (refine B4 rfl ?_; unfold Bt.OK; rw [if_pos h1_1]; exact ⟨of_decide_eq_true h2_3, by omega⟩)
    | (refine B3 rfl (fun e => ?_); unfold Bt.OK at e; rw [if_pos h1_1] at e; first | exact absurd e.1 (of_decide_eq_false h2_3) | (have := e.2; omega))
   ·first
    | (refine B4 rfl ?_; unfold Bt.OK; rw [if_pos h1_1]; exact ⟨of_decide_eq_true h2_3, by omega⟩)
    | (refine B3 rfl (fun e => ?_); unfold Bt.OK at e; rw [if_pos h1_1] at e; first | exact absurd e.1 (of_decide_eq_false h2_3) | (have := e.2; omega))
  ·first
   | (refine B4 rfl ?_; unfold Bt.OK; rw [if_pos h1_1]; exact ⟨of_decide_eq_true h2_3, by omega⟩)
   | (refine B3 rfl (fun e => ?_); unfold Bt.OK at e; rw [if_pos h1_1] at e; first | exact absurd e.1 (of_decide_eq_false h2_3) | (have := e.2; omega))
 ·(apply D2 (vs := [.int _ _, .int _ _, .int _ _, .int _ _, .str _]) j2; exact Q0; rfl; rfl; exact kb; rfl)
  refine B6 (p35 x.rq) rfl j2 ?_ ?_ <;> intro h3_2
  ·refine A4 ?_
   refine br ?_ ?_ <;> intro h3_8
   ·refine B3 rfl (fun e => ?_); unfold Bt.OK at e; rw [if_neg (by rw [h1_1]; exact Bool.noConfusion)] at e; first | exact absurd e.1 h3_2 | (have := e.2.1; omega)
   ·refine A4 ?_
    refine A9 (fun (a : Nat × Nat) => [.unk, .ptr 0 0 0, .unk, .unk, .unk, .unk, .unk, .unk, .unk, .unk, .unk, .unk, .unk, .unk, .unk, .unk, .unk, .unk, .unk, .unk, .unk, .unk, .unk, .unk, .unk, .unk, .unk, .unk, .sl false b (x.rs.map Rg.T), .int .i64 (x.rs.map Rg.T).length, .int .i64 a.1]) (fun (a : Nat × Nat) => hp [(0, ⟨[[.bool x.nl, .int .i64 x.rq.cl, .int .i64 x.rq.st, .int .i64 x.rq.kd, .int .i64 x.rq.le, .str x.rq.nm, .sl false b (x.rs.map Rg.T)]], 7, 200⟩)]) (fun (a : Nat × Nat) => a.2) (fun (a : Nat × Nat) => a.1 ≤ x.rs.length ∧ 1 ≤ a.2 ∧ ∀ j, j < a.1 → (x.rs.getD j Rg0).OK ∧ (0 < j → (x.rs.getD (j - 1) Rg0).fr < (x.rs.getD j Rg0).fr)) (fun (a : Nat × Nat) => x.rs.length - a.1) ⟨0, 1⟩ ?_ ?_ ?_ ?_ ?_
    ·exact ⟨Nat.zero_le _, Nat.le_refl _, S9⟩
    ·(repeat first | exact LE.nil _ | refine LE.unk _ _ ?_ | refine LE.eq _ _ _ rfl ?_)
    ·(repeat first | exact B8 | (refine C0 ?_ ?_; (first | exact Q0 | fail)))
    ·exact Nat.le_refl _
    intro ⟨i, m⟩ hI ih
    obtain ⟨q0, q1, q2⟩ := hI
    dsimp only at q0 q1 q2 ⊢
    refine A7 (st := []) ?_
    refine br ?_ ?_ <;> intro h6_0
    ·(refine C2 (D7 (by first | rfl | assumption | (first | exact B9 Rg.T Rg0 (k := i) (by omega) | (have e : ((i : Int) - 1).toNat = i - 1 := (by omega); rw [e]; exact B9 Rg.T Rg0 (k := i - 1) (by omega)))) rfl ?_))
     (apply est (u := .agg [.int _ _, .int _ _, .str _]) j3; exact Q0; rfl; exact j4; exact kb; rfl)
     (apply D2 (vs := [.int _ _, .int _ _, .str _]) j2; exact Q0; rfl; rfl; exact kb; rfl)
     refine B6 (s275 (x.rs.getD i Rg0)) rfl j2 ?_ ?_ <;> intro h8_1
     ·refine br ?_ ?_ <;> intro h8_5
      ·refine A4 ?_
       refine B7 ?_
       (refine C2 (D7 (by first | rfl | assumption | (first | exact B9 Rg.T Rg0 (k := i) (by omega) | (have e : ((i : Int) - 1).toNat = i - 1 := (by omega); rw [e]; exact B9 Rg.T Rg0 (k := i - 1) (by omega)))) rfl ?_))
       refine A4 ?_
       refine br ?_ ?_ <;> intro h8_16
       ·refine B3 rfl (fun e => ?_); unfold Bt.OK at e; rw [if_neg (by rw [h1_1]; exact Bool.noConfusion)] at e; first | exact absurd (e.2.2 i (by omega)).1 h8_1 | (have := (e.2.2 i (by omega)).2 (by omega); omega)
       ·refine B7 ?_
        exact C6 (ih ⟨i + 1, m + 1⟩ ⟨by dsimp only; omega, by dsimp only; omega, U5 q2 ⟨h8_1, fun _ => by omega⟩⟩ (by dsimp only; omega)) (by (repeat first | exact LE.nil _ | refine LE.unk _ _ ?_ | refine LE.eq _ _ _ rfl ?_)) (by (repeat first | exact B8 | (refine C0 ?_ ?_; (first | exact Q0 | fail)))) (Nat.le_refl _)
      ·refine B7 ?_
       exact C6 (ih ⟨i + 1, m + 1⟩ ⟨by dsimp only; omega, by dsimp only; omega, U5 q2 ⟨h8_1, fun _ => by omega⟩⟩ (by dsimp only; omega)) (by (repeat first | exact LE.nil _ | refine LE.unk _ _ ?_ | refine LE.eq _ _ _ rfl ?_)) (by (repeat first | exact B8 | (refine C0 ?_ ?_; (first | exact Q0 | fail)))) (Nat.le_refl _)
     ·refine B3 rfl (fun e => ?_); unfold Bt.OK at e; rw [if_neg (by rw [h1_1]; exact Bool.noConfusion)] at e; first | exact absurd (e.2.2 i (by omega)).1 h8_1 | (have := (e.2.2 i (by omega)).2 (by omega); omega)
    ·refine B4 rfl ?_; unfold Bt.OK; rw [if_neg (by rw [h1_1]; exact Bool.noConfusion)]; exact ⟨h3_2, by omega, fun j hj => q2 j (by omega)⟩
  ·refine B3 rfl (fun e => ?_); unfold Bt.OK at e; rw [if_neg (by rw [h1_1]; exact Bool.noConfusion)] at e; first | exact absurd e.1 h3_2 | (have := e.2.1; omega)
open Go.V
set_option linter.unusedVariables false
set_option linter.unusedSimpArgs false
set_option maxRecDepth 20000
set_option maxHeartbeats 4000000
def LsOK {α : Type} (f : α → List V) (sz ty lo : Nat) (G : List α) (o : V) (b m : Nat) (g : Heap) : Prop := (G = [] ∧ o = .nsl) ∨ (o = .view b 0 G.length ∧ g b = some ⟨G.map f, sz, ty⟩ ∧ (lo ≤ b ∧ b < m))
theorem LsOK.keep {α : Type} {f : α → List V} {sz ty lo : Nat} {G : List α} {o : V} {b m m2 : Nat} {g g2 : Heap} (h : LsOK f sz ty lo G o b m g) (hm : m ≤ m2) (e : ∀ a, lo ≤ a → a < m → g2 a = g a) : LsOK f sz ty lo G o b m2 g2 :=
 h.imp (fun x => x) fun ⟨h1, h2, h3⟩ => ⟨h1, (e b h3.1 h3.2).trans h2, h3.1, by omega⟩
theorem G4 (L : List Rg) : rowsV (L.map Rg.T) = L.map Rg.V := by unfold rowsV; rw [List.map_map]; rfl
theorem bS1 {p : ByteArray} (h : 1 ≤ p.size) : Rd.sk p ⟨0, false⟩ 1 = ⟨1, false⟩ := Rd.sk_ok (n := 1) (by omega)
theorem bN1 {p : ByteArray} (h : 1 ≤ p.size) : Rd.nm p ⟨0, false⟩ 1 = num p 0 1 := Rd.nm_ok (by omega)
theorem bN0 {p : ByteArray} (h : p.size = 0) : Rd.nm p ⟨0, false⟩ 1 = 0 := Rd.nm_no (Rd.few_no (by show (p.size : Int) < 0 + 1; omega))
theorem bNle (p : ByteArray) : 0 ≤ Rd.nm p ⟨0, false⟩ 1 ∧ Rd.nm p ⟨0, false⟩ 1 ≤ 255 := by
 refine ⟨Rd.nm_0 _ _ _, ?_⟩
 rcases Nat.eq_zero_or_pos p.size with h | h
 ·rw [bN0 h]; omega
 ·rw [bN1 h]; exact num1_le _ _
theorem J4 {p : ByteArray} (h0 : p ≠ nullT) (h : Rd.nm p ⟨0, false⟩ 1 - 1 < 0 ∨ Rd.nm p ⟨0, false⟩ 1 - 1 > 7) : ¬ bOK p := by
 rintro (e | ⟨⟨e1, e2, _⟩, e3⟩)
 ·exact h0 e
 ·rw [bN1 e1] at h
  have : (btC p).rs.length = btN p := by simp [btC]
  unfold Bt.OK at e3
  rw [if_neg (by show ¬ false = true; exact Bool.noConfusion)] at e3
  have q := e3.2.1
  rw [this] at q
  unfold btN at q
  omega
theorem U8 {p : ByteArray} (h : ¬ Rd.nm p ⟨0, false⟩ 1 - 1 < 0) : 1 ≤ p.size ∧ 1 ≤ num p 0 1 := by
 rcases Nat.eq_zero_or_pos p.size with q | q
 ·rw [bN0 q] at h; omega
 ·rw [bN1 q] at h; exact ⟨q, by omega⟩
theorem U9 {p : ByteArray} (h : btL p) : (⟨false, rqV p (rgI p (Rd.sk p ⟨0, false⟩ 1) (btN p)), rgL p (Rd.sk p ⟨0, false⟩ 1) (btN p)⟩ : Bt) = btC p := by
 obtain ⟨h1, h2, h3, h4⟩ := h
 unfold btC
 rw [bS1 h1, X6 h3, rgL_ok h3, rq_val h4]
theorem rgI_le {p : ByteArray} {s : Rd} (h : s.o ≤ p.size) : ∀ i, (rgI p s i).o ≤ p.size
 | 0 => h
 | i + 1 => Rd.sk_le (Rd.sk_le (Rd.sk_le (rgI_le h i) (by omega)) (by omega)) (by omega)
structure BS where
 i : Nat
 o : V
 b : Nat
 m : Nat
 g : Heap
def ZB (rq : Rq) (o : V) : Option Blk := some ⟨[[.bool false, .int .i64 rq.cl, .int .i64 rq.st, .int .i64 rq.kd, .int .i64 rq.le, .str rq.nm, o]], 7, 200⟩
structure BI (p : ByteArray) (k : Nat) (a : BS) : Prop where
 il : a.i ≤ k
 g0 : a.g 0 = ZB RqZ .nsl
 g1 : a.g 1 = some (rdB p (rgI p (Rd.sk p ⟨0, false⟩ 1) a.i))
 g3 : a.g 3 = ZB RqZ a.o
 out : LsOK Rg.V 3 273 4 (rgL p (Rd.sk p ⟨0, false⟩ 1) a.i) a.o a.b a.m a.g
 mm : 4 ≤ a.m
theorem s228 (p : ByteArray) : Pure En 228 [.one (.str p)] [.agg ((if bOK p then bX p else BtZ).T false), .one (.bool (decide (bOK p)))] := by
 have hnl := bNle p
 refine Pure.of_ev (st := [4, 11]) Tryz.func228 rfl kb ?_
 refine br ?_ ?_ <;> intro h1_1
 ·(apply est (u := .agg [.bool _, .int _ _, .int _ _, .int _ _, .int _ _, .str _, _]) j3; exact Q0; exact Q8; exact j4; exact kb; rfl)
  have hy : bOK p := .inl h1_1
  rw [if_pos hy, decide_eq_true hy, show bX p = BtN from if_pos h1_1]
  exact C7 [] (A0 (A2 rfl (by exact Q0) j2 kb rfl) (A0 rfl A1)) (SnapL.cons _ _ _ _ (SnapC.agg (.cons _ _ _ _ (.bool _) (.cons _ _ _ _ (.int _ _) (.cons _ _ _ _ (.int _ _) (.cons _ _ _ _ (.int _ _) (.cons _ _ _ _ (.int _ _) (.cons _ _ _ _ (.str _) (.cons _ _ _ _ .nslW .nil)))))))) (SnapL.cons _ _ _ _ (.one _ _ (.bool _)) SnapL.nil))
 ·refine E1 fun G hG => ?_
  have hrd : G 1 = some (rdB p ⟨0, false⟩) := by rw [hG]; unfold rdB; dsimp only; rw [ext_all]; exact Q0
  have hG0 : G 0 = ZB RqZ .nsl := by rw [hG]; exact Q0
  unfold ZB RqZ at hG0
  dsimp only at hG0
  refine N3 (O1 p ⟨0, false⟩ (Nat.zero_le _) 1 (by omega) ?_ hrd) rfl rfl rfl ?_
  ·exact F9
  refine B7 ?_
  refine br ?_ ?_ <;> intro h5_1
  ·(apply est (u := .agg [.bool _, .int _ _, .int _ _, .int _ _, .int _ _, .str _, _]) j3; exact Q0; exact Q8; exact j4; exact kb; rfl)
   have hno : ¬ bOK p := J4 h1_1 (.inr h5_1)
   rw [if_neg hno, decide_eq_false hno]
   refine C7 [] (A0 (A2 rfl (by exact Q0) j2 kb rfl) (A0 rfl A1)) ?_
   exact (SnapL.cons _ _ _ _ (SnapC.agg (.cons _ _ _ _ (.bool _) (.cons _ _ _ _ (.int _ _) (.cons _ _ _ _ (.int _ _) (.cons _ _ _ _ (.int _ _) (.cons _ _ _ _ (.int _ _) (.cons _ _ _ _ (.str _) (.cons _ _ _ _ .nslW .nil)))))))) (SnapL.cons _ _ _ _ (.one _ _ (.bool _)) SnapL.nil))
  ·refine U7 fun g0 hg0 => ?_
   refine A9 (fun (a : BS) => [.unk, .unk, .ptr 0 0 0, .unk, .ptr 1 0 0, .int .i64 (Rd.nm p ⟨0, false⟩ 1 - 1), .ptr 3 0 0, .unk, .unk, .unk, .unk, .unk, .unk, .unk, .unk, .unk, .unk, .unk, .unk, .unk, .int .i64 (max (Rd.nm p ⟨0, false⟩ 1 - 1) 0), .int .i64 a.i]) (fun (a : BS) => a.g) (fun (a : BS) => a.m) (fun (a : BS) => BI p (max (Rd.nm p ⟨0, false⟩ 1 - 1) 0).toNat a) (fun (a : BS) => (max (Rd.nm p ⟨0, false⟩ 1 - 1) 0).toNat - a.i) ⟨0, .nsl, 0, 4, g0⟩ ?_ ?_ ?_ ?_ ?_
   ·refine ⟨Nat.zero_le _, ?_, ?_, ?_, .inl ⟨rfl, rfl⟩, Nat.le_refl _⟩
    ·dsimp only; rw [hg0]; exact Q0
    ·dsimp only; rw [hg0]; exact Q0
    ·dsimp only; rw [hg0]; exact Q0
   ·(repeat first | exact LE.nil _ | refine LE.unk _ _ ?_ | refine LE.eq _ _ _ rfl ?_)
   ·exact LessH.refl _
   ·exact Nat.le_refl _
   intro ⟨i, o, b, m, g⟩ hI ih
   have q0 := hI.il
   have hg0 := hI.g0
   have hg1 := hI.g1
   have hg3 := hI.g3
   have q4 := hI.mm
   unfold ZB at hg0 hg3
   dsimp only at q0 hg0 hg1 hg3 q4 ⊢
   have hle : (rgI p (Rd.sk p ⟨0, false⟩ 1) i).o ≤ p.size := rgI_le (Rd.sk_le (Nat.zero_le _) (by omega)) i
   have hrl := rgL_len p (Rd.sk p ⟨0, false⟩ 1) i
   rcases hI.out with ⟨e0, e1⟩ | ⟨e1, gO, hbO⟩
   all_goals dsimp only at e1
   ·skip
    obtain rfl : i = 0 := by have := rgL_len p (Rd.sk p ⟨0, false⟩ 1) i; rw [e0] at this; exact this.symm
    subst e1
    refine A7 (st := [4, 11]) ?_
    refine br ?_ ?_ <;> intro h9_0
    ·refine A4 ?_ (by exact Q0) (by exact Q8)
     refine N3 (O1 p (rgI p (Rd.sk p ⟨0, false⟩ 1) 0) hle 1 (by omega) ?_ hg1) rfl rfl rfl ?_
     ·exact F9
     refine N3 (O1 p ((rgI p (Rd.sk p ⟨0, false⟩ 1) 0).sk p 1) (Rd.sk_le hle (by omega)) 4 (by omega) ?_ ?_) rfl rfl rfl ?_
     ·exact F9
     ·exact F9
     refine N3 (o270 p (((rgI p (Rd.sk p ⟨0, false⟩ 1) 0).sk p 1).sk p 4) (Rd.sk_le (Rd.sk_le hle (by omega)) (by omega)) 8 (by omega) ?_ ?_) rfl rfl rfl ?_
     ·exact F9
     ·exact F9
     refine D3 (es := [[.int _ _, .int _ _, .str _]]) j4 kz kb rfl rfl ?_
     first | (apply eap (s' := 32) (es := [[.int _ _, .int _ _, .str _]]) rfl rfl; exact Q0; exact j2; (first | rfl | (rw [List.length_map]; omega)); exact j2; exact kz; exact H5; exact Q6; exact Q4; exact Q4) | (apply ean (s' := 32) (es := [[.int _ _, .int _ _, .str _]]) rfl j3 kz; exact H5; exact Q6; exact Q4; exact Q4; exact Q4)
     (apply est (u := .view _ _ _) j3; exact Q0; exact Q8; exact j4; exact kb; rfl)
     refine clr 13 [3, 0, 3, 3, 0, 3, 0, 3, 0, 3, 0, 1, 0] [(1, 3), (1, 5), (1, 7), (1, 9)] j2 (by decide +kernel) ?_ ?_
     ·first | (simp [ClearL, ids]; done) | (simp [ClearL, ids]; omega) | (simp [ClearL, ids, srcIds, Env.eval, put, upd, retV, A.toV, T.toV]; try omega)
     refine E1 fun G hG => ?_
     refine B7 ?_
     refine C6 (ih ⟨0 + 1, .view (m + 1 + 1 + 1) 0 1, (m + 1 + 1 + 1), m + 1 + 1 + 1 + 1, G⟩ ⟨by dsimp only; omega, ?_, ?_, ?_, .inr ⟨?_, ?_, by dsimp only; omega, by dsimp only; omega⟩, by dsimp only; omega⟩ (by dsimp only; omega)) (by (repeat first | exact LE.nil _ | refine LE.unk _ _ ?_ | refine LE.eq _ _ _ rfl ?_)) (LessH.refl _) (Nat.le_refl _)
     ·dsimp only; rw [hG]; exact Q0
     ·dsimp only; rw [hG]; exact Q0
     ·dsimp only; rw [hG]; exact Q0
     ·show V.view _ 0 _ = V.view _ 0 (rgL p (Rd.sk p ⟨0, false⟩ 1) 0 ++ [_]).length; rw [List.length_append]; rfl
     ·dsimp only; rw [hG]; show _ = some (Blk.mk ((rgL p (Rd.sk p ⟨0, false⟩ 1) 0 ++ [_]).map Rg.V) 3 273); rw [List.map_append]; exact Q0
    ·have hl5 : (rqS p (rgI p (Rd.sk p ⟨0, false⟩ 1) 0)).o ≤ p.size := Rd.skz_le (Rd.sk_le (Rd.sk_le (Rd.sk_le (Rd.sk_le hle (by omega)) (by omega)) (by omega)) (by omega))
     refine N3 (o273 p (rgI p (Rd.sk p ⟨0, false⟩ 1) 0) hle ?_ hg1) rfl rfl rfl ?_
     ·exact F9
     (apply est (u := .agg [.int _ _, .int _ _, .int _ _, .int _ _, .str _]) j3; exact Q0; exact Q8; exact j4; exact kb; rfl)
     refine br ?_ ?_ <;> intro h13_1
     ·(apply est (u := .agg [.bool _, .int _ _, .int _ _, .int _ _, .int _ _, .str _, _]) j3; exact Q0; exact Q8; exact j4; exact kb; rfl)
      have hno : ¬ bOK p := by
       by_cases hm : (Rd.nm p ⟨0, false⟩ 1 - 1) < 0
       ·exact J4 h1_1 (.inl hm)
       ·obtain ⟨w1, w2⟩ := U8 hm
        rintro (e | ⟨e1, e2⟩)
        ·exact h1_1 e
        ·have ek : 0 = btN p := by unfold btN; rw [← bN1 w1]; omega
         have hd := (H9 w1 w2).2 e1
         rw [← bS1 w1, ← ek] at hd
         first
         | exact absurd hm h13_1
         | exact absurd hd h13_4
         | exact absurd (decide_eq_true hd) h13_4
         | exact h13_9 (by have q := U9 e1; rw [← ek] at q; rw [q]; exact e2)
         | exact absurd h13_1 hm
         | exact absurd hd (of_decide_eq_false h13_4)
      rw [if_neg hno, decide_eq_false hno]
      refine C7 [] (A0 (A2 rfl (by exact Q0) j2 kb rfl) (A0 rfl A1)) ?_
      exact (SnapL.cons _ _ _ _ (SnapC.agg (.cons _ _ _ _ (.bool _) (.cons _ _ _ _ (.int _ _) (.cons _ _ _ _ (.int _ _) (.cons _ _ _ _ (.int _ _) (.cons _ _ _ _ (.int _ _) (.cons _ _ _ _ (.str _) (.cons _ _ _ _ .nslW .nil)))))))) (SnapL.cons _ _ _ _ (.one _ _ (.bool _)) SnapL.nil))
     ·refine eopB (o216 p (rqS p (rgI p (Rd.sk p ⟨0, false⟩ 1) 0)) hl5 ?_ ?_) rfl j2 ?_ ?_
      ·exact F9
      ·exact F9
      all_goals intro h13_4
      ·(apply D2 (vs := [.bool _, .int _ _, .int _ _, .int _ _, .int _ _, .str _, _]) j2; exact Q0; exact Q8; rfl; exact kb; rfl)
       apply eclSP [b] (s274 ⟨false, rqV p (rgI p (Rd.sk p ⟨0, false⟩ 1) 0), rgL p (Rd.sk p ⟨0, false⟩ 1) 0⟩ false) rfl j2
       ·exact SnapL.cons _ _ _ _ (SnapC.agg (.cons _ _ _ _ (.bool _) (.cons _ _ _ _ (.int _ _) (.cons _ _ _ _ (.int _ _) (.cons _ _ _ _ (.int _ _) (.cons _ _ _ _ (.int _ _) (.cons _ _ _ _ (.str _) (.cons _ _ _ _ .nslW .nil)))))))) SnapL.nil
       all_goals intro h13_9
       ·(apply D2 (vs := [.bool _, .int _ _, .int _ _, .int _ _, .int _ _, .str _, _]) j2; exact Q0; exact Q8; rfl; exact kb; rfl)
        (apply est (u := .agg [.bool _, .int _ _, .int _ _, .int _ _, .int _ _, .str _, _]) j3; exact Q0; exact Q8; exact j4; exact kb; rfl)
        obtain ⟨w1, w2⟩ := U8 h13_1
        have ek : 0 = btN p := by unfold btN; rw [← bN1 w1]; omega
        have hbl : btL p := (H9 w1 w2).1 (by rw [← bS1 w1, ← ek]; exact of_decide_eq_true h13_4)
        have hv := U9 hbl
        rw [← ek] at hv
        have hyes : bOK p := .inr ⟨hbl, by rw [← hv]; exact h13_9⟩
        rw [if_pos hyes, decide_eq_true hyes]
        have hx : bX p = ⟨false, rqV p (rgI p (Rd.sk p ⟨0, false⟩ 1) 0), rgL p (Rd.sk p ⟨0, false⟩ 1) 0⟩ := by rw [hv]; exact if_neg h1_1
        rw [hx]
        refine C7 [] (A0 (A2 rfl (by exact Q0) j2 kb rfl) (A0 rfl A1)) ?_
        exact (SnapL.cons _ _ _ _ (SnapC.agg (.cons _ _ _ _ (.bool _) (.cons _ _ _ _ (.int _ _) (.cons _ _ _ _ (.int _ _) (.cons _ _ _ _ (.int _ _) (.cons _ _ _ _ (.int _ _) (.cons _ _ _ _ (.str _) (.cons _ _ _ _ .nslW .nil)))))))) (SnapL.cons _ _ _ _ (.one _ _ (.bool _)) SnapL.nil))
       ·(apply est (u := .agg [.bool _, .int _ _, .int _ _, .int _ _, .int _ _, .str _, _]) j3; exact Q0; exact Q8; exact j4; exact kb; rfl)
        have hno : ¬ bOK p := by
         by_cases hm : (Rd.nm p ⟨0, false⟩ 1 - 1) < 0
         ·exact J4 h1_1 (.inl hm)
         ·obtain ⟨w1, w2⟩ := U8 hm
          rintro (e | ⟨e1, e2⟩)
          ·exact h1_1 e
          ·have ek : 0 = btN p := by unfold btN; rw [← bN1 w1]; omega
           have hd := (H9 w1 w2).2 e1
           rw [← bS1 w1, ← ek] at hd
           first
           | exact absurd hm h13_1
           | exact absurd hd h13_4
           | exact absurd (decide_eq_true hd) h13_4
           | exact h13_9 (by have q := U9 e1; rw [← ek] at q; rw [q]; exact e2)
           | exact absurd h13_1 hm
           | exact absurd hd (of_decide_eq_false h13_4)
        rw [if_neg hno, decide_eq_false hno]
        refine C7 [] (A0 (A2 rfl (by exact Q0) j2 kb rfl) (A0 rfl A1)) ?_
        exact (SnapL.cons _ _ _ _ (SnapC.agg (.cons _ _ _ _ (.bool _) (.cons _ _ _ _ (.int _ _) (.cons _ _ _ _ (.int _ _) (.cons _ _ _ _ (.int _ _) (.cons _ _ _ _ (.int _ _) (.cons _ _ _ _ (.str _) (.cons _ _ _ _ .nslW .nil)))))))) (SnapL.cons _ _ _ _ (.one _ _ (.bool _)) SnapL.nil))
      ·(apply est (u := .agg [.bool _, .int _ _, .int _ _, .int _ _, .int _ _, .str _, _]) j3; exact Q0; exact Q8; exact j4; exact kb; rfl)
       have hno : ¬ bOK p := by
        by_cases hm : (Rd.nm p ⟨0, false⟩ 1 - 1) < 0
        ·exact J4 h1_1 (.inl hm)
        ·obtain ⟨w1, w2⟩ := U8 hm
         rintro (e | ⟨e1, e2⟩)
         ·exact h1_1 e
         ·have ek : 0 = btN p := by unfold btN; rw [← bN1 w1]; omega
          have hd := (H9 w1 w2).2 e1
          rw [← bS1 w1, ← ek] at hd
          first
          | exact absurd hm h13_1
          | exact absurd hd h13_4
          | exact absurd (decide_eq_true hd) h13_4
          | exact h13_9 (by have q := U9 e1; rw [← ek] at q; rw [q]; exact e2)
          | exact absurd h13_1 hm
          | exact absurd hd (of_decide_eq_false h13_4)
       rw [if_neg hno, decide_eq_false hno]
       refine C7 [] (A0 (A2 rfl (by exact Q0) j2 kb rfl) (A0 rfl A1)) ?_
       exact (SnapL.cons _ _ _ _ (SnapC.agg (.cons _ _ _ _ (.bool _) (.cons _ _ _ _ (.int _ _) (.cons _ _ _ _ (.int _ _) (.cons _ _ _ _ (.int _ _) (.cons _ _ _ _ (.int _ _) (.cons _ _ _ _ (.str _) (.cons _ _ _ _ .nslW .nil)))))))) (SnapL.cons _ _ _ _ (.one _ _ (.bool _)) SnapL.nil))
   ·skip
    dsimp only at e1 gO hbO
    subst e1
    refine A7 (st := [4, 11]) ?_
    refine br ?_ ?_ <;> intro h9_0
    ·refine A4 ?_ (by exact Q0) (by exact Q8)
     refine N3 (O1 p (rgI p (Rd.sk p ⟨0, false⟩ 1) i) hle 1 (by omega) ?_ hg1) rfl rfl rfl ?_
     ·exact F9
     refine N3 (O1 p ((rgI p (Rd.sk p ⟨0, false⟩ 1) i).sk p 1) (Rd.sk_le hle (by omega)) 4 (by omega) ?_ ?_) rfl rfl rfl ?_
     ·exact F9
     ·exact F9
     refine N3 (o270 p (((rgI p (Rd.sk p ⟨0, false⟩ 1) i).sk p 1).sk p 4) (Rd.sk_le (Rd.sk_le hle (by omega)) (by omega)) 8 (by omega) ?_ ?_) rfl rfl rfl ?_
     ·exact F9
     ·exact F9
     refine D3 (es := [[.int _ _, .int _ _, .str _]]) j4 kz kb rfl rfl ?_
     first | (apply eap (s' := 32) (es := [[.int _ _, .int _ _, .str _]]) rfl rfl; exact Q0; exact j2; (first | rfl | (rw [List.length_map]; omega)); exact j2; exact kz; exact H5; exact Q6; exact Q4; exact Q4) | (apply ean (s' := 32) (es := [[.int _ _, .int _ _, .str _]]) rfl j3 kz; exact H5; exact Q6; exact Q4; exact Q4; exact Q4)
     (apply est (u := .view _ _ _) j3; exact Q0; exact Q8; exact j4; exact kb; rfl)
     refine clr 13 [3, 0, 3, 3, 0, 3, 0, 3, 0, 3, 0, 1, 0] [(1, 3), (1, 5), (1, 7), (1, 9)] j2 (by decide +kernel) ?_ ?_
     ·first | (simp [ClearL, ids]; done) | (simp [ClearL, ids]; omega) | (simp [ClearL, ids, srcIds, Env.eval, put, upd, retV, A.toV, T.toV]; try omega)
     refine E1 fun G hG => ?_
     refine B7 ?_
     refine C6 (ih ⟨i + 1, .view (m + 1 + 1 + 1) 0 ((rgL p (Rd.sk p ⟨0, false⟩ 1) i).length + 1), (m + 1 + 1 + 1), m + 1 + 1 + 1 + 1, G⟩ ⟨by dsimp only; omega, ?_, ?_, ?_, .inr ⟨?_, ?_, by dsimp only; omega, by dsimp only; omega⟩, by dsimp only; omega⟩ (by dsimp only; omega)) (by (repeat first | exact LE.nil _ | refine LE.unk _ _ ?_ | refine LE.eq _ _ _ rfl ?_)) (LessH.refl _) (Nat.le_refl _)
     ·dsimp only; rw [hG]; exact Q0
     ·dsimp only; rw [hG]; exact Q0
     ·dsimp only; rw [hG]; exact Q0
     ·show V.view _ 0 _ = V.view _ 0 (rgL p (Rd.sk p ⟨0, false⟩ 1) i ++ [_]).length; rw [List.length_append]; rfl
     ·dsimp only; rw [hG]; show _ = some (Blk.mk ((rgL p (Rd.sk p ⟨0, false⟩ 1) i ++ [_]).map Rg.V) 3 273); rw [List.map_append]; exact Q0
    ·have hl5 : (rqS p (rgI p (Rd.sk p ⟨0, false⟩ 1) i)).o ≤ p.size := Rd.skz_le (Rd.sk_le (Rd.sk_le (Rd.sk_le (Rd.sk_le hle (by omega)) (by omega)) (by omega)) (by omega))
     refine N3 (o273 p (rgI p (Rd.sk p ⟨0, false⟩ 1) i) hle ?_ hg1) rfl rfl rfl ?_
     ·exact F9
     (apply est (u := .agg [.int _ _, .int _ _, .int _ _, .int _ _, .str _]) j3; exact Q0; exact Q8; exact j4; exact kb; rfl)
     refine br ?_ ?_ <;> intro h13_1
     ·(apply est (u := .agg [.bool _, .int _ _, .int _ _, .int _ _, .int _ _, .str _, _]) j3; exact Q0; exact Q8; exact j4; exact kb; rfl)
      have hno : ¬ bOK p := by
       by_cases hm : (Rd.nm p ⟨0, false⟩ 1 - 1) < 0
       ·exact J4 h1_1 (.inl hm)
       ·obtain ⟨w1, w2⟩ := U8 hm
        rintro (e | ⟨e1, e2⟩)
        ·exact h1_1 e
        ·have ek : i = btN p := by unfold btN; rw [← bN1 w1]; omega
         have hd := (H9 w1 w2).2 e1
         rw [← bS1 w1, ← ek] at hd
         first
         | exact absurd hm h13_1
         | exact absurd hd h13_4
         | exact absurd (decide_eq_true hd) h13_4
         | exact h13_9 (by have q := U9 e1; rw [← ek] at q; rw [q]; exact e2)
         | exact absurd h13_1 hm
         | exact absurd hd (of_decide_eq_false h13_4)
      rw [if_neg hno, decide_eq_false hno]
      refine C7 [] (A0 (A2 rfl (by exact Q0) j2 kb rfl) (A0 rfl A1)) ?_
      exact (SnapL.cons _ _ _ _ (SnapC.agg (.cons _ _ _ _ (.bool _) (.cons _ _ _ _ (.int _ _) (.cons _ _ _ _ (.int _ _) (.cons _ _ _ _ (.int _ _) (.cons _ _ _ _ (.int _ _) (.cons _ _ _ _ (.str _) (.cons _ _ _ _ .nslW .nil)))))))) (SnapL.cons _ _ _ _ (.one _ _ (.bool _)) SnapL.nil))
     ·refine eopB (o216 p (rqS p (rgI p (Rd.sk p ⟨0, false⟩ 1) i)) hl5 ?_ ?_) rfl j2 ?_ ?_
      ·exact F9
      ·exact F9
      all_goals intro h13_4
      ·(apply D2 (vs := [.bool _, .int _ _, .int _ _, .int _ _, .int _ _, .str _, _]) j2; exact Q0; exact Q8; rfl; exact kb; rfl)
       apply eclSP [b] (s274 ⟨false, rqV p (rgI p (Rd.sk p ⟨0, false⟩ 1) i), rgL p (Rd.sk p ⟨0, false⟩ 1) i⟩ false) rfl j2
       ·exact SnapL.cons _ _ _ _ (SnapC.agg (.cons _ _ _ _ (.bool _) (.cons _ _ _ _ (.int _ _) (.cons _ _ _ _ (.int _ _) (.cons _ _ _ _ (.int _ _) (.cons _ _ _ _ (.int _ _) (.cons _ _ _ _ (.str _) (.cons _ _ _ _ (.weak _ _ (A3 ((rgL p (Rd.sk p ⟨0, false⟩ 1) i).map Rg.T) (List.mem_singleton.2 rfl) (by exact Q0) (G4 _).symm (List.length_map ..).symm)) .nil)))))))) SnapL.nil
       all_goals intro h13_9
       ·(apply D2 (vs := [.bool _, .int _ _, .int _ _, .int _ _, .int _ _, .str _, _]) j2; exact Q0; exact Q8; rfl; exact kb; rfl)
        (apply est (u := .agg [.bool _, .int _ _, .int _ _, .int _ _, .int _ _, .str _, _]) j3; exact Q0; exact Q8; exact j4; exact kb; rfl)
        obtain ⟨w1, w2⟩ := U8 h13_1
        have ek : i = btN p := by unfold btN; rw [← bN1 w1]; omega
        have hbl : btL p := (H9 w1 w2).1 (by rw [← bS1 w1, ← ek]; exact of_decide_eq_true h13_4)
        have hv := U9 hbl
        rw [← ek] at hv
        have hyes : bOK p := .inr ⟨hbl, by rw [← hv]; exact h13_9⟩
        rw [if_pos hyes, decide_eq_true hyes]
        have hx : bX p = ⟨false, rqV p (rgI p (Rd.sk p ⟨0, false⟩ 1) i), rgL p (Rd.sk p ⟨0, false⟩ 1) i⟩ := by rw [hv]; exact if_neg h1_1
        rw [hx]
        refine C7 [b] (A0 (A2 rfl (by exact Q0) j2 kb rfl) (A0 rfl A1)) ?_
        exact (SnapL.cons _ _ _ _ (SnapC.agg (.cons _ _ _ _ (.bool _) (.cons _ _ _ _ (.int _ _) (.cons _ _ _ _ (.int _ _) (.cons _ _ _ _ (.int _ _) (.cons _ _ _ _ (.int _ _) (.cons _ _ _ _ (.str _) (.cons _ _ _ _ (.weak _ _ (A3 ((rgL p (Rd.sk p ⟨0, false⟩ 1) i).map Rg.T) (List.mem_singleton.2 rfl) (by exact Q0) (G4 _).symm (List.length_map ..).symm)) .nil)))))))) (SnapL.cons _ _ _ _ (.one _ _ (.bool _)) SnapL.nil))
       ·(apply est (u := .agg [.bool _, .int _ _, .int _ _, .int _ _, .int _ _, .str _, _]) j3; exact Q0; exact Q8; exact j4; exact kb; rfl)
        have hno : ¬ bOK p := by
         by_cases hm : (Rd.nm p ⟨0, false⟩ 1 - 1) < 0
         ·exact J4 h1_1 (.inl hm)
         ·obtain ⟨w1, w2⟩ := U8 hm
          rintro (e | ⟨e1, e2⟩)
          ·exact h1_1 e
          ·have ek : i = btN p := by unfold btN; rw [← bN1 w1]; omega
           have hd := (H9 w1 w2).2 e1
           rw [← bS1 w1, ← ek] at hd
           first
           | exact absurd hm h13_1
           | exact absurd hd h13_4
           | exact absurd (decide_eq_true hd) h13_4
           | exact h13_9 (by have q := U9 e1; rw [← ek] at q; rw [q]; exact e2)
           | exact absurd h13_1 hm
           | exact absurd hd (of_decide_eq_false h13_4)
        rw [if_neg hno, decide_eq_false hno]
        refine C7 [] (A0 (A2 rfl (by exact Q0) j2 kb rfl) (A0 rfl A1)) ?_
        exact (SnapL.cons _ _ _ _ (SnapC.agg (.cons _ _ _ _ (.bool _) (.cons _ _ _ _ (.int _ _) (.cons _ _ _ _ (.int _ _) (.cons _ _ _ _ (.int _ _) (.cons _ _ _ _ (.int _ _) (.cons _ _ _ _ (.str _) (.cons _ _ _ _ .nslW .nil)))))))) (SnapL.cons _ _ _ _ (.one _ _ (.bool _)) SnapL.nil))
      ·(apply est (u := .agg [.bool _, .int _ _, .int _ _, .int _ _, .int _ _, .str _, _]) j3; exact Q0; exact Q8; exact j4; exact kb; rfl)
       have hno : ¬ bOK p := by
        by_cases hm : (Rd.nm p ⟨0, false⟩ 1 - 1) < 0
        ·exact J4 h1_1 (.inl hm)
        ·obtain ⟨w1, w2⟩ := U8 hm
         rintro (e | ⟨e1, e2⟩)
         ·exact h1_1 e
         ·have ek : i = btN p := by unfold btN; rw [← bN1 w1]; omega
          have hd := (H9 w1 w2).2 e1
          rw [← bS1 w1, ← ek] at hd
          first
          | exact absurd hm h13_1
          | exact absurd hd h13_4
          | exact absurd (decide_eq_true hd) h13_4
          | exact h13_9 (by have q := U9 e1; rw [← ek] at q; rw [q]; exact e2)
          | exact absurd h13_1 hm
          | exact absurd hd (of_decide_eq_false h13_4)
       rw [if_neg hno, decide_eq_false hno]
       refine C7 [] (A0 (A2 rfl (by exact Q0) j2 kb rfl) (A0 rfl A1)) ?_
       exact (SnapL.cons _ _ _ _ (SnapC.agg (.cons _ _ _ _ (.bool _) (.cons _ _ _ _ (.int _ _) (.cons _ _ _ _ (.int _ _) (.cons _ _ _ _ (.int _ _) (.cons _ _ _ _ (.int _ _) (.cons _ _ _ _ (.str _) (.cons _ _ _ _ .nslW .nil)))))))) (SnapL.cons _ _ _ _ (.one _ _ (.bool _)) SnapL.nil))
open Go.V
set_option linter.unusedVariables false
set_option linter.unusedSimpArgs false
set_option maxRecDepth 20000
set_option maxHeartbeats 4000000
def mOK (p : ByteArray) : Prop := msL p ∧ (msC p).OK
instance dcMO (p : ByteArray) : Decidable (mOK p) := by unfold mOK; infer_instance
def mX (p : ByteArray) : Msg := if mOK p then msC p else Msg0
theorem s218 (p : ByteArray) : Pure En 218 [.one (.str p)] [.agg (mX p).T, .one (.bool (decide (mOK p)))] := by
 refine Pure.of_ev (st := [2]) Tryz.func218 rfl kb ?_
 refine E1 fun G hG => ?_
 have hrd : G 1 = some (rdB p ⟨0, false⟩) := by rw [hG]; unfold rdB; dsimp only; rw [ext_all]; exact Q0
 have hG0 : G 0 = some ⟨[Msg0.V], 7, 37⟩ := by rw [hG]; exact Q0
 unfold Msg.V Msg0 at hG0
 dsimp only at hG0
 refine N3 (O1 p (⟨0, false⟩ : Rd) (Nat.zero_le _) 1 (by omega) ?_ hrd) rfl rfl rfl ?_
 ·exact F9
 refine N3 (O1 p (Rd.sk p (⟨0, false⟩ : Rd) 1) (Rd.sk_le (Nat.zero_le _) (by omega)) 1 (by omega) ?_ ?_) rfl rfl rfl ?_
 ·exact F9
 ·exact F9
 refine N3 (O1 p (Rd.sk p (Rd.sk p (⟨0, false⟩ : Rd) 1) 1) (Rd.sk_le (Rd.sk_le (Nat.zero_le _) (by omega)) (by omega)) 1 (by omega) ?_ ?_) rfl rfl rfl ?_
 ·exact F9
 ·exact F9
 refine N3 (O1 p (Rd.sk p (Rd.sk p (Rd.sk p (⟨0, false⟩ : Rd) 1) 1) 1) (Rd.sk_le (Rd.sk_le (Rd.sk_le (Nat.zero_le _) (by omega)) (by omega)) (by omega)) 1 (by omega) ?_ ?_) rfl rfl rfl ?_
 ·exact F9
 ·exact F9
 refine N3 (o215 p (Rd.sk p (Rd.sk p (Rd.sk p (Rd.sk p (⟨0, false⟩ : Rd) 1) 1) 1) 1) (Rd.sk_le (Rd.sk_le (Rd.sk_le (Rd.sk_le (Nat.zero_le _) (by omega)) (by omega)) (by omega)) (by omega)) 1 (by omega) ?_ ?_) rfl rfl rfl ?_
 ·exact F9
 ·exact F9
 refine N3 (o215 p (Rd.skz p (Rd.sk p (Rd.sk p (Rd.sk p (Rd.sk p (⟨0, false⟩ : Rd) 1) 1) 1) 1) 1) (Rd.skz_le (Rd.sk_le (Rd.sk_le (Rd.sk_le (Rd.sk_le (Nat.zero_le _) (by omega)) (by omega)) (by omega)) (by omega))) 2 (by omega) ?_ ?_) rfl rfl rfl ?_
 ·exact F9
 ·exact F9
 refine N3 (o270 p (Rd.skz p (Rd.skz p (Rd.sk p (Rd.sk p (Rd.sk p (Rd.sk p (⟨0, false⟩ : Rd) 1) 1) 1) 1) 1) 2) (Rd.skz_le (Rd.skz_le (Rd.sk_le (Rd.sk_le (Rd.sk_le (Rd.sk_le (Nat.zero_le _) (by omega)) (by omega)) (by omega)) (by omega)))) 8 (by omega) ?_ ?_) rfl rfl rfl ?_
 ·exact F9
 ·exact F9
 (apply est (u := .agg [.int _ _, .int _ _, .int _ _, .int _ _, .str _, .str _, .str _]) j3; exact Q0; exact Q8; exact j4; exact kb; rfl)
 refine eopB (o216 p (msS p ⟨0, false⟩) (Rd.sk_le (Rd.skz_le (Rd.skz_le (Rd.sk_le (Rd.sk_le (Rd.sk_le (Rd.sk_le (Nat.zero_le _) (by omega)) (by omega)) (by omega)) (by omega)))) (by omega)) ?_ ?_) rfl j2 ?_ ?_
 ·exact F9
 ·exact F9
 all_goals intro h3_1
 ·(apply D2 (vs := [.int _ _, .int _ _, .int _ _, .int _ _, .str _, .str _, .str _]) j2; exact Q0; exact Q8; rfl; exact kb; rfl)
  refine B6 (s136 (msV p ⟨0, false⟩)) rfl j2 ?_ ?_ <;> intro h3_5
  ·(apply D2 (vs := [.int _ _, .int _ _, .int _ _, .int _ _, .str _, .str _, .str _]) j2; exact Q0; exact Q8; rfl; exact kb; rfl)
   (apply est (u := .agg [.int _ _, .int _ _, .int _ _, .int _ _, .str _, .str _, .str _]) j3; exact Q0; exact Q8; exact j4; exact kb; rfl)
   have hl : msL p := (ms_done p).1 (by first | exact h3_1 | exact of_decide_eq_true h3_1)
   have hv := ms_val hl
   have hyes : mOK p := ⟨hl, by rw [← hv]; exact h3_5⟩
   rw [decide_eq_true hyes, show mX p = msV p ⟨0, false⟩ from (if_pos hyes).trans hv.symm]
   refine C7 [] (A0 (A2 rfl (by exact Q0) j2 kb rfl) (A0 rfl A1)) ?_
   exact (SnapL.cons _ _ _ _ (SnapC.agg (.cons _ _ _ _ (.int _ _) (.cons _ _ _ _ (.int _ _) (.cons _ _ _ _ (.int _ _) (.cons _ _ _ _ (.int _ _) (.cons _ _ _ _ (.str _) (.cons _ _ _ _ (.str _) (.cons _ _ _ _ (.str _) .nil)))))))) (SnapL.cons _ _ _ _ (.one _ _ (.bool _)) SnapL.nil))
  ·(apply est (u := .agg [.int _ _, .int _ _, .int _ _, .int _ _, .str _, .str _, .str _]) j3; exact Q0; exact Q8; exact j4; exact kb; rfl)
   have hno : ¬ mOK p := by
    rintro ⟨e1, e2⟩
    have hd := (ms_done p).2 e1
    first
    | exact absurd hd h3_1
    | exact absurd hd (of_decide_eq_false h3_1)
    | exact absurd (decide_eq_true hd) h3_1
    | exact h3_5 (by rw [ms_val e1]; exact e2)
   rw [show mX p = Msg0 from if_neg hno, decide_eq_false hno]
   refine C7 [] (A0 (A2 rfl (by exact Q0) j2 kb rfl) (A0 rfl A1)) ?_
   exact (SnapL.cons _ _ _ _ (SnapC.agg (.cons _ _ _ _ (.int _ _) (.cons _ _ _ _ (.int _ _) (.cons _ _ _ _ (.int _ _) (.cons _ _ _ _ (.int _ _) (.cons _ _ _ _ (.str _) (.cons _ _ _ _ (.str _) (.cons _ _ _ _ (.str _) .nil)))))))) (SnapL.cons _ _ _ _ (.one _ _ (.bool _)) SnapL.nil))
 ·(apply est (u := .agg [.int _ _, .int _ _, .int _ _, .int _ _, .str _, .str _, .str _]) j3; exact Q0; exact Q8; exact j4; exact kb; rfl)
  have hno : ¬ mOK p := by
   rintro ⟨e1, e2⟩
   have hd := (ms_done p).2 e1
   first
   | exact absurd hd h3_1
   | exact absurd hd (of_decide_eq_false h3_1)
   | exact absurd (decide_eq_true hd) h3_1
   | exact h3_5 (by rw [ms_val e1]; exact e2)
  rw [show mX p = Msg0 from if_neg hno, decide_eq_false hno]
  refine C7 [] (A0 (A2 rfl (by exact Q0) j2 kb rfl) (A0 rfl A1)) ?_
  exact (SnapL.cons _ _ _ _ (SnapC.agg (.cons _ _ _ _ (.int _ _) (.cons _ _ _ _ (.int _ _) (.cons _ _ _ _ (.int _ _) (.cons _ _ _ _ (.int _ _) (.cons _ _ _ _ (.str _) (.cons _ _ _ _ (.str _) (.cons _ _ _ _ (.str _) .nil)))))))) (SnapL.cons _ _ _ _ (.one _ _ (.bool _)) SnapL.nil))
theorem s219 (m : Msg) : Pure En 219 [.agg m.T] [.one (.bool (decide (m.kd = 2 ∧ m.OK)))] := by
 refine Pure.of_ev (st := []) Tryz.func219 rfl kb ?_
 refine A4 ?_
 refine br ?_ ?_ <;> intro h1_2
 ·(apply D2 (vs := [.int _ _, .int _ _, .int _ _, .int _ _, .str _, .str _, .str _]) j2; exact Q0; rfl; rfl; exact kb; rfl)
  refine B6 (s136 m) rfl j2 ?_ ?_ <;> intro h1_5
  ·first | (refine B4 rfl ?_; exact ⟨by first | omega | assumption, by assumption⟩) | (refine B3 rfl ?_; rintro ⟨q1, q2⟩; first | omega | exact absurd q2 (by assumption))
  ·first | (refine B4 rfl ?_; exact ⟨by first | omega | assumption, by assumption⟩) | (refine B3 rfl ?_; rintro ⟨q1, q2⟩; first | omega | exact absurd q2 (by assumption))
 ·first | (refine B4 rfl ?_; exact ⟨by first | omega | assumption, by assumption⟩) | (refine B3 rfl ?_; rintro ⟨q1, q2⟩; first | omega | exact absurd q2 (by assumption))
end Go.Proofs.YteifdelnahccjaaGreatDoor
