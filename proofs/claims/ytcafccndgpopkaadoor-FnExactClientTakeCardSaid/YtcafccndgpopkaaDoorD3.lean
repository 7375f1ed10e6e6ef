import Derived.Test.YtcafccndgpopkaaDoorD2
namespace Go.Proofs.YtcafccndgpopkaaDoor
open Go.V
set_option linter.unusedVariables false
set_option linter.unusedSimpArgs false
set_option maxRecDepth 20000
set_option maxHeartbeats 4000000

def byt (s : ByteArray) : List Int := s.data.toList.map fun b => (b.toNat : Int)
theorem byt_length (s : ByteArray) : (byt s).length = s.size := by unfold byt; rw [List.length_map]; rfl
theorem tm64 (a : Nat) : (a : Int).tmod 64 = ((a % 64 : Nat) : Int) := rfl
theorem bytRows (s : ByteArray) : (s.data.toList.map fun b => [V.int .u8 (b.toNat : Int)]) = (byt s).map bV := by simp [byt, bV]
theorem rowsLen (s : ByteArray) : (s.data.toList.map fun b => [V.int .u8 (b.toNat : Int)]).length = s.size := by rw [bytRows, List.length_map, byt_length]
theorem snapCut {h : Heap} {ids : List Nat} {r : Bool} {id off m : Nat} {b : Blk} (L : List Int) (hid : id ∈ ids) (hb : h id = some b) (he : b.es = L.map bV) (hl : off + m ≤ L.length) :
    Snap h ids r (.view id off m) (.sl true (((L.drop off).take m).map bT)) := by
  have e : ((b.es.drop off).take m) = ((L.drop off).take m).map bV := by rw [he, List.map_take, List.map_drop]
  refine .view id off m b _ hid hb (by rw [he, List.length_map]; exact hl) (by simp; omega) (fun i x y h1 h2 => ?_) (fun i j x y h1 h2 => ?_)
  · rw [e] at h1
    rw [List.getElem?_map] at h1 h2
    cases hz : ((L.drop off).take m)[i]? with
    | none => simp [hz] at h1
    | some z =>
      simp only [hz, Option.map_some, Option.some.injEq] at h1 h2
      subst h1; subst h2; rfl
  · rw [e] at h1
    unfold get2 at h1 h2
    rw [List.getElem?_map] at h1 h2
    cases hz : ((L.drop off).take m)[i]? with
    | none => simp [hz] at h1
    | some z =>
      simp only [hz, Option.map_some, Option.bind_some] at h1 h2
      match j with
      | 0 => simp [bV, bT] at h1 h2; subst h1; subst h2; exact .int _ _
      | j + 1 => simp [bV] at h1

end Go.Proofs.YtcafccndgpopkaaDoor
