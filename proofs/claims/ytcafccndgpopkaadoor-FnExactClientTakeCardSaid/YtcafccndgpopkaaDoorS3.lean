import Derived.Test.YtcafccndgpopkaaDoorS2
namespace Go.Proofs.YtcafccndgpopkaaDoor
open Go.V
/-! The two sides write two words' bits in two ways. -/
theorem orb_comm (a b : Int) : orb a b = orb b a := by
  unfold orb bits
  dsimp only
  rw [BitVec.or_comm]
theorem ofW (v : BitVec 32) : BitVec.ofInt 32 (IntKind.u32.wrap (v.toNat : Int)) = v := by
  have h := v.isLt
  have e : IntKind.u32.wrap (v.toNat : Int) = (v.toNat : Int) % (2 ^ 32 : Int) := rfl
  rw [e, Int.emod_eq_of_lt (by omega) (by omega)]
  apply BitVec.eq_of_toNat_eq
  simp
/-- 'e and f, or not e and g': the two parts have no bit in common. -/
theorem ch_eq (e f g : Int) : orb (anb e f) (anb (xo (if IntKind.u32.signed = true then -1 else IntKind.u32.max) e) g) = xo (anb e f) (anb (xo (if IntKind.u32.signed = true then -1 else IntKind.u32.max) e) g) := by
  have o1 : ∀ a b, orb a b = IntKind.u32.wrap ((BitVec.ofInt 32 a ||| BitVec.ofInt 32 b).toNat : Int) := fun _ _ => rfl
  have o2 : ∀ a b, anb a b = IntKind.u32.wrap ((BitVec.ofInt 32 a &&& BitVec.ofInt 32 b).toNat : Int) := fun _ _ => rfl
  have o3 : ∀ a b, xo a b = IntKind.u32.wrap ((BitVec.ofInt 32 a ^^^ BitVec.ofInt 32 b).toNat : Int) := fun _ _ => rfl
  have hM : BitVec.ofInt 32 (if IntKind.u32.signed = true then -1 else IntKind.u32.max) = BitVec.allOnes 32 := by decide
  have key : ∀ E F G : BitVec 32, (E &&& F ||| (BitVec.allOnes 32 ^^^ E) &&& G) = (E &&& F ^^^ (BitVec.allOnes 32 ^^^ E) &&& G) := by
    intro E F G
    ext i hi
    simp only [BitVec.getElem_or, BitVec.getElem_xor, BitVec.getElem_and, BitVec.getElem_allOnes]
    cases E[i] <;> cases F[i] <;> cases G[i] <;> rfl
  rw [o1, o3 (anb e f), o2, o2, o3, ofW, ofW, ofW, hM, key]
end Go.Proofs.YtcafccndgpopkaaDoor
