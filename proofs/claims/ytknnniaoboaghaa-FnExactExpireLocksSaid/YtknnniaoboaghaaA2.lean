import Derived.Test.YtknnniaoboaghaaA1
namespace Go.Proofs.Ytknnniaoboaghaa
open Go.V
set_option linter.unusedVariables false
set_option linter.unusedSimpArgs false
set_option maxRecDepth 20000
set_option maxHeartbeats 4000000

/-! Names compared; a lock found. -/
def strT (s : ByteArray) : List T := [.str s]

/-! Names of locks, compared. -/
def cb (a b : ByteArray) : Int := Lib.compareBytes a.data.toList b.data.toList
/-- A lock's cells; W: where its waiters are. -/
def Lk.V (l : Lk) (W : V) : List V := [.str l.nm, .int .i64 l.tk, .int .i64 l.hd, .int .i64 l.ex, W]
theorem bytesLess_eq : ∀ (x y : List UInt8), Op.bytesLess x y = decide (x < y)
  | [], [] => by simp [Op.bytesLess]
  | _ :: _, [] => by simp [Op.bytesLess]
  | [], _ :: _ => by simp [Op.bytesLess]
  | a :: x, b :: y => by
    rw [Op.bytesLess, bytesLess_eq x y]
    simp only [List.cons_lt_cons_iff]
    by_cases h1 : a < b <;> by_cases h2 : a = b <;> by_cases h3 : x < y <;> simp [h1, h2, h3]
theorem ltS_iff (a b : ByteArray) : ltS a b ↔ a.data.toList < b.data.toList := by
  unfold ltS
  rw [Lib.toList_data, Lib.toList_data, bytesLess_eq, decide_eq_true_iff]
instance (a b : ByteArray) : Decidable (ltS a b) := by unfold ltS; infer_instance
theorem ltS_trans {a b c : ByteArray} : ltS a b → ltS b c → ltS a c := by
  rw [ltS_iff, ltS_iff, ltS_iff]; exact fun h1 h2 => List.lt_trans h1 h2
def lnm (L : List Lk) (i : Nat) : ByteArray := (L.getD i Lk0).nm
def Srt (L : List Lk) : Prop := ∀ i, 0 < i → i < L.length → ltS (lnm L (i - 1)) (lnm L i)
theorem Srt.lt {L : List Lk} (hs : Srt L) {i : Nat} : ∀ {j : Nat}, i < j → j < L.length → ltS (lnm L i) (lnm L j)
  | 0, h, _ => absurd h (Nat.not_lt_zero _)
  | j + 1, h, h1 => by
    have e := hs (j + 1) (Nat.succ_pos _) h1
    rw [Nat.add_sub_cancel] at e
    by_cases e2 : i = j
    · subst e2; exact e
    · exact ltS_trans (hs.lt (j := j) (by omega) (by omega)) e
/-- The place of the first name that is not below s. -/
def pos (s : ByteArray) : List Lk → Nat
  | [] => 0
  | l :: r => if ltS l.nm s then pos s r + 1 else 0
def hit (s : ByteArray) (L : List Lk) : Prop := pos s L < L.length ∧ lnm L (pos s L) = s
instance (s : ByteArray) (L : List Lk) : Decidable (hit s L) := by unfold hit; infer_instance
def fix (s : ByteArray) (L : List Lk) : Int := if hit s L then pos s L else -1
end Go.Proofs.Ytknnniaoboaghaa
