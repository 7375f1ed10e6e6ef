import Derived.Test.YtknnniaoboaghaaM16
namespace Go.Proofs.Ytknnniaoboaghaa
open Go.V
set_option linter.unusedVariables false
set_option linter.unusedSimpArgs false
set_option maxRecDepth 20000
set_option maxHeartbeats 4000000
theorem lksN_all (L : List Lk) : lksN (fun _ => true) L = L.map (Lk.T true) := by
 refine List.ext_getElem? fun i => ?_
 rcases Nat.lt_or_ge i L.length with h | h
 ·rw [N8 h, List.getElem?_map, List.getElem?_eq_getElem h, List.getD_eq_getElem?_getD, List.getElem?_eq_getElem h]; rfl
 ·rw [List.getElem?_eq_none (by rw [N7]; exact h), List.getElem?_eq_none (by rw [List.length_map]; exact h)]
theorem TbN_all (t : Tb) : t.N (fun _ => true) true true = t.T true true true := by unfold Tb.N Tb.T; rw [lksN_all]; rfl
theorem once_all (n1 n2 : Bool) (B C : List Int) (hB : bytes B) (hC : bytes C) (hBl : B.length ≤ 1048576) (hCl : C.length ≤ 1048576) :
  Pure En 6 [.one (.sl n1 (B.map bT)), .one (.sl n2 (C.map bT))] [.one (.bool true)] := by
 obtain ⟨⟨L, Tm⟩, hR, h28⟩ := s28 n1 B hB (by omega)
 obtain ⟨r, hg, h29⟩ := p6 n2 C hC (by omega)
 obtain ⟨c9, hc, h30⟩ := p10 n2 C hC hCl 0 9 (by decide) (by decide)
 dsimp only at hR h28
 obtain ⟨h1, h2, h3, h4⟩ := runT_OK hR L.length (Nat.le_refl _)
 have hst := runT_StB hR L.length (Nat.le_refl _)
 have hl := hR.2.2.1
 generalize (runT L Tm L.length).1 = t at h28 h1 h2 h3 h4 hst
 have htm := h1.1
 have hr2 : (Rq.mk r.cl 60000 r.kd r.le r.nm).OK := CD hg 60000 (by decide)
 have hn : 0 ≤ t.tm + c9 ∧ t.tm + c9 ≤ 1000000000 := by omega
 have hn5 : 0 ≤ t.tm + c9 + 500 ∧ t.tm + c9 + 500 ≤ 1000000000 := by omega
 have hq := rqT_R h1 hr2 hn (by omega)
 have hX := hq.OK (by omega)
 have hx := hq.nx
 have htx := hq.tm
 have a2 := again hst (show (1000 : Int) < (Rq.mk r.cl 60000 r.kd r.le r.nm).st by show (1000 : Int) < 60000; decide) (now := t.tm + c9) (t.tm + c9)
 have a3 := again hst (show (1000 : Int) < (Rq.mk r.cl 60000 r.kd r.le r.nm).st by show (1000 : Int) < 60000; decide) (now := t.tm + c9) (t.tm + c9 + 500)
 rw [exT_ng hq.lr (by omega)] at a2
 have e1 := Y3 ⟨h1, hr2⟩ hn (by omega)
 have e2 := Y3 ⟨hX, hr2⟩ hn (by omega)
 have e3 := Y3 ⟨hX, hr2⟩ hn5 (by omega)
 rw [a2] at e2
 rw [a3] at e3
 have hY : (exT (rqT t (t.tm + c9) (Rq.mk r.cl 60000 r.kd r.le r.nm)).1 (t.tm + c9 + 500)).OK := by
  have k := rqT_R hX hr2 hn5 (by omega)
  rw [a3] at k
  exact k.OK (by omega)
 generalize (rqT t (t.tm + c9) (Rq.mk r.cl 60000 r.kd r.le r.nm)).1 = X at *
 generalize (rqT t (t.tm + c9) (Rq.mk r.cl 60000 r.kd r.le r.nm)).2 = an at *
 refine once_walk n1 n2 B C hBl hCl t X (exT X (t.tm + c9 + 500)) r an c9 (by omega) (by omega) h28 h29 h30 (fun n => ?_) (fun N b1 b2 k n => ?_) (fun N b1 b2 k n => ?_) (fun N b1 b2 k n => o19Nx X N b1 b2 k _ hX hn5 (by omega) n) (s31 X false false false hX) (s32 _ false false false hY)
 ·have q := o27Nx t (fun _ => true) true true ⟨nofun, nofun, nofun⟩ (t.tm + c9) (Rq.mk r.cl 60000 r.kd r.le r.nm) n
  rw [e1, TbN_all] at q; exact q
 ·have q := o27Nx X N b1 b2 k (t.tm + c9) (Rq.mk r.cl 60000 r.kd r.le r.nm) n
  rw [e2] at q; exact q
 ·have q := o27Nx X N b1 b2 k (t.tm + c9 + 500) (Rq.mk r.cl 60000 r.kd r.le r.nm) n
  rw [e3] at q; exact q
theorem once_long (n1 n2 : Bool) (B C : List Int) (hb : ¬ (B.length ≤ 1048576 ∧ C.length ≤ 1048576)) :
  Pure En 6 [.one (.sl n1 (B.map bT)), .one (.sl n2 (C.map bT))] [.one (.bool true)] := by
 have hbl : (B.map bT).length = B.length := List.length_map ..
 have hcl : (C.map bT).length = C.length := List.length_map ..
 refine Pure.of_wp Try.func6 rfl kb ?_
 refine A2 (A0 (C4 j5 (A3 (A1 (A2 (A2 (A0 (AL j5 (H9 rfl rfl rfl j3 ?_)))))))))
 refine X1 j6 ?_ ?_ <;> intro h1_2
 ·refine C7 j5 (A4 j3 (A4 j3 (A4 j3 (B7 (e := true) j6 (A3 (A1 (wT rfl (A2 (A0 (C4 j5 (A3 (A1 ?_))))))))))))
  refine B1 (B0 ?_)
  exact fin rfl rfl
 ·refine C7 j5 (AL j5 (H9 rfl rfl rfl j3 ?_))
  refine X1 j6 ?_ ?_ <;> intro h1_6
  ·refine B7 (e := true) j6 (A3 (A1 (wT rfl (A2 (A0 (C4 j5 (A3 (A1 (B1 (B0 ?_))))))))))
   exact fin rfl rfl
  ·refine B7 (e := false) j6 (A3 (A1 (wF rfl (B2 (A1 (A2 ?_))))))
   exact absurd ⟨by omega, by omega⟩ hb
theorem once_any (n1 n2 : Bool) (B C : List Int) (hB : bytes B) (hC : bytes C) : Pure En 6 [.one (.sl n1 (B.map bT)), .one (.sl n2 (C.map bT))] [.one (.bool true)] := by
 by_cases hb : B.length ≤ 1048576 ∧ C.length ≤ 1048576
 ·exact once_all n1 n2 B C hB hC hb.1 hb.2
 ·exact once_long n1 n2 B C hb
end Go.Proofs.Ytknnniaoboaghaa
