import Derived.Test.YtcafccndgpopkaaDoorD3
namespace Go.Proofs.YtcafccndgpopkaaDoor
open Go.V
set_option linter.unusedVariables false
set_option linter.unusedSimpArgs false
set_option maxRecDepth 20000
set_option maxHeartbeats 4000000

/-! SHA-256 in so many words: what both sides compute. -/
def ad (a b : Int) : Int := IntKind.u32.wrap (a + b)
def xo (a b : Int) : Int := bits .xor .u32 a b
def anb (a b : Int) : Int := bits .and .u32 a b
def orb (a b : Int) : Int := bits .or .u32 a b
def sr (x k : Int) : Int := x.fdiv (2 ^ (min k.toNat IntKind.u32.bits))
def sl (x k : Int) : Int := IntKind.u32.wrap (x * 2 ^ (min k.toNat IntKind.u32.bits))
/-- Turned right. -/
def rt (x k : Int) : Int := orb (sl x (32 - k)) (sr x k)
def rtOK (k : Int) : Prop := bits .and .u64 (IntKind.u64.wrap (IntKind.i64.wrap (0 - k))) 31 = 32 - k ∧ IntKind.u64.wrap (32 - (32 - k)) = k
instance (k : Int) : Decidable (rtOK k) := by unfold rtOK; infer_instance
theorem e51 (x k : Int) (hk : rtOK k) : Pure En 136 [.one (.int .u32 x), .one (.int .i64 (IntKind.i64.wrap (0 - k)))] [.one (.int .u32 (rt x k))] := by
  refine Pure.of_wp Tryd.func136 rfl (Nat.le_of_ble_eq_true rfl) ?_
  refine wSeq ?_
  refine wRegion ?_
  refine raI rfl rfl rfl rfl rfl ?_
  refine rNil ?_
  refine qSeq ?_
  refine wSeq ?_
  refine wRegion ?_
  refine rmI rfl rfl rfl rfl rfl ?_
  refine rcv rfl rfl rfl rfl rfl rfl rfl ?_
  refine rand rfl rfl rfl rfl rfl rfl ?_
  refine raI rfl rfl rfl rfl rfl ?_
  refine rNil ?_
  refine qSeq ?_
  refine wSeq ?_
  refine wRegion ?_
  refine rmI rfl rfl rfl rfl rfl ?_
  refine rmI rfl rfl rfl rfl rfl ?_
  refine rshl rfl rfl rfl ?_ rfl rfl rfl ?_
  · (first | exact bits_nn _ _ _ | exact wrap_nn _)
  refine rmI rfl rfl rfl rfl rfl ?_
  refine rmI rfl rfl rfl rfl rfl ?_
  refine rsub rfl rfl rfl rfl rfl rfl ?_
  refine rshr rfl rfl rfl ?_ rfl rfl rfl ?_
  · (first | exact bits_nn _ _ _ | exact wrap_nn _)
  refine ror rfl rfl rfl rfl rfl rfl ?_
  refine raI rfl rfl rfl rfl rfl ?_
  refine rNil ?_
  refine qSeq ?_
  refine wRet ?_
  exact fin rfl (by unfold rt; rw [hk.1, hk.2]; rfl)
theorem e50 (x k : Int) (hk : rtOK k) : Pure En 128 [.one (.int .u32 x), .one (.int .i64 k)] [.one (.int .u32 (rt x k))] := by
  refine Pure.of_wp Tryd.func128 rfl (Nat.le_of_ble_eq_true rfl) ?_
  refine wSeq ?_
  refine wRegion ?_
  refine raI rfl rfl rfl rfl rfl ?_
  refine rNil ?_
  refine qSeq ?_
  refine wSeq ?_
  refine wRegion ?_
  refine rmI rfl rfl rfl rfl rfl ?_
  refine rmI rfl rfl rfl rfl rfl ?_
  refine rneg rfl rfl rfl rfl rfl ?_
  refine rcl (e51 x k hk) rfl rfl rfl rfl rfl rfl ?_
  refine raI rfl rfl rfl rfl rfl ?_
  refine rNil ?_
  refine qSeq ?_
  refine wRet ?_
  exact fin rfl rfl

def wbB (B : List Int) (i : Nat) : Int :=
  orb (orb (orb (sl (IntKind.u32.wrap (B.getD (4 * (i : Int)).toNat 0)) 24) (sl (IntKind.u32.wrap (B.getD (4 * (i : Int) + 1).toNat 0)) 16)) (sl (IntKind.u32.wrap (B.getD (4 * (i : Int) + 2).toNat 0)) 8)) (IntKind.u32.wrap (B.getD (4 * (i : Int) + 3).toNat 0))
def W0 (B : List Int) : Nat → List Int
  | 0 => List.replicate 64 0
  | i + 1 => (W0 B i).set i (wbB B i)
theorem W0_length (B : List Int) : ∀ i, (W0 B i).length = 64
  | 0 => by simp [W0]
  | i + 1 => by unfold W0; rw [List.length_set]; exact W0_length B i
/-- A new word of the schedule. -/
def wNew (L : List Int) (i : Nat) : Int :=
  let x := L.getD ((i : Int) - 15).toNat 0
  let y := L.getD ((i : Int) - 2).toNat 0
  ad (ad (ad (L.getD ((i : Int) - 16).toNat 0) (xo (xo (rt x 7) (rt x 18)) (sr x 3))) (L.getD ((i : Int) - 7).toNat 0)) (xo (xo (rt y 17) (rt y 19)) (sr y 10))
def W1 (L : List Int) : Nat → List Int
  | 0 => L
  | j + 1 => (W1 L j).set (16 + j) (wNew (W1 L j) (16 + j))
theorem W1_length (L : List Int) (h : L.length = 64) : ∀ j, (W1 L j).length = 64
  | 0 => h
  | j + 1 => by unfold W1; rw [List.length_set]; exact W1_length L h j
/-- A round. -/
def rnd (r : W8) (k w : Int) : W8 :=
  let p := ad (ad (ad (ad r.h (xo (xo (rt r.e 6) (rt r.e 11)) (rt r.e 25))) (orb (anb r.e r.f) (anb (xo (if IntKind.u32.signed = true then -1 else IntKind.u32.max) r.e) r.g))) k) w
  let q := ad (xo (xo (rt r.a 2) (rt r.a 13)) (rt r.a 22)) (xo (xo (anb r.a r.b) (anb r.a r.c)) (anb r.b r.c))
  ⟨ad p q, r.a, r.b, r.c, ad r.d p, r.e, r.f, r.g⟩
def rnds (L : List Int) (r : W8) : Nat → W8
  | 0 => r
  | i + 1 => rnd (rnds L r i) (roundW.getD i 0) (L.getD i 0)
def W8.L (r : W8) : List Int := [r.a, r.b, r.c, r.d, r.e, r.f, r.g, r.h]
def addW (q r : W8) : Nat → List Int
  | 0 => q.L
  | i + 1 => (addW q r i).set i (ad ((addW q r i).getD i 0) (r.L.getD i 0))
theorem addW_length (q r : W8) : ∀ i, (addW q r i).length = 8
  | 0 => rfl
  | i + 1 => by unfold addW; rw [List.length_set]; exact addW_length q r i
theorem W0_zero (B : List Int) : W0 B 0 = List.replicate 64 0 := rfl
theorem W0_succ (B : List Int) (i : Nat) : W0 B (i + 1) = (W0 B i).set i (wbB B i) := rfl
theorem W1_zero (L : List Int) : W1 L 0 = L := rfl
theorem W1_succ (L : List Int) (j : Nat) : W1 L (j + 1) = (W1 L j).set (16 + j) (wNew (W1 L j) (16 + j)) := rfl
theorem rnds_zero (L : List Int) (r : W8) : rnds L r 0 = r := rfl
theorem rnds_succ (L : List Int) (r : W8) (i : Nat) : rnds L r (i + 1) = rnd (rnds L r i) (roundW.getD i 0) (L.getD i 0) := rfl
theorem addW_zero (q r : W8) : addW q r 0 = q.L := rfl
theorem addW_succ (q r : W8) (i : Nat) : addW q r (i + 1) = (addW q r i).set i (ad ((addW q r i).getD i 0) (r.L.getD i 0)) := rfl
def sched (B : List Int) : List Int := W1 (W0 B 16) 48
def blk8 (q : W8) (B : List Int) : W8 :=
  let r := rnds (sched B) q 64
  ⟨ad q.a r.a, ad q.b r.b, ad q.c r.c, ad q.d r.d, ad q.e r.e, ad q.f r.f, ad q.g r.g, ad q.h r.h⟩
theorem addW_end (q r : W8) : addW q r 8 = [ad q.a r.a, ad q.b r.b, ad q.c r.c, ad q.d r.d, ad q.e r.e, ad q.f r.f, ad q.g r.g, ad q.h r.h] := rfl
attribute [irreducible] W0 W1 rnds addW
theorem e48 (q : W8) (nn : Bool) (B : List Int) (hB : B.length = 64) : Pure En 119 [.agg q.T, .one (.sl nn (B.map bT))] [.agg (blk8 q B).T] := by
  refine Pure.of_wp Tryd.func119 rfl (Nat.le_of_ble_eq_true rfl) ?_
  refine wSeq ?_
  refine wRegion ?_
  refine rbx (u := .agg [.int _ _, .int _ _, .int _ _, .int _ _, .int _ _, .int _ _, .int _ _, .int _ _]) rfl rfl rfl rfl rfl rfl rfl ?_
  refine ral rfl rfl rfl rfl rfl rfl ?_
  refine rNil ?_
  refine qSeq ?_
  refine wSeq ?_
  refine wRegion ?_
  refine ral rfl rfl rfl rfl rfl rfl ?_
  refine rNil ?_
  refine qSeq ?_
  refine wSeq ?_
  refine wSeq ?_
  refine wRegion ?_
  refine rmI rfl rfl rfl rfl rfl ?_
  refine rNil ?_
  refine qSeq ?_
  refine wBlock ?_
  refine wLoop ?_
  refine loopGo (fun (i : Nat) => [.unk, .sl false nn (B.map bT), .ptr 0 0 0, .unk, .ptr 1 0 0, .ptr 2 0 0, .unk, .unk, .unk, .unk, .unk, .unk, .unk, .unk, .unk, .unk, .int .i64 i]) (fun (i : Nat) => hp [(0, ⟨[q.V], 8, 150⟩), (1, ⟨[List.replicate 8 (wV 0)], 8, 150⟩), (2, ⟨[(W0 B i).map wV], 64, 164⟩)]) (fun (i : Nat) => 3) (fun (i : Nat) => i ≤ 16) (fun (i : Nat) => 16 - i) 0 ?_ ?_ ?_ ?_ ?_
  · exact Nat.zero_le _
  · (repeat first | exact LE.nil _ | refine LE.unk _ _ ?_ | refine LE.eq _ _ _ rfl ?_)
  · (repeat first | exact lessH0 | (refine lessHc ?_ ?_; (first | (first | ((simp (disch := omega) only [↓app0, ↓appC, ↓updS, ↓updN, ↓hpS, ↓hpN]) <;> first | rfl | assumption) | assumption | rfl) | ((simp (disch := omega) only [app, upd, hp, if_pos, if_neg, Nat.zero_add, Nat.mul_one, Int.toNat_natCast]); first | (rw [W0_zero]; rfl) | (rw [W0_succ]; rfl)))))
  · exact Nat.le_refl _
  intro i hI ih
  have hL0 := W0_length B i
  refine lStep ?_
  refine wSeq ?_
  refine wRegion ?_
  refine rlt rfl rfl rfl rfl rfl rfl ?_ ?_ <;> intro h3_0
  · refine rNil ?_
    refine qSeq ?_
    refine wSeq ?_
    refine wT rfl ?_
    refine wSkip ?_
    refine qSeq ?_
    refine wSeq ?_
    refine wBlock ?_
    refine wSeq ?_
    refine wRegion ?_
    refine rmI rfl rfl rfl rfl rfl ?_
    refine raI rfl rfl rfl rfl rfl ?_
    refine rNil ?_
    refine qSeq ?_
    refine wDraw [0, 0, 0, 4, 14, 30, 62, 126, 0, 0, 512, 1536, 3840, 7936, 16128, 32512, 65534, 0, 0, 262144, 786432, 1966080, 4063232, 8257536, 16646144, 33554430, 0, 0, 134217728, 402653184, 1006632960, 2080374784, 4227858432, 8589934590, 17179869183, 34359738367] rfl (by decide +kernel) ?_
    refine dmI rfl rfl rfl rfl rfl ?_
    refine dmL rfl rfl rfl rfl rfl ?_
    refine dmI rfl rfl rfl rfl rfl ?_
    refine dmulF rfl rfl rfl ?_ ?_ rfl rfl rfl ?_
    · (first | omega | assumption | (focus (simp; omega)))
    · (first | omega | assumption | (focus (simp; omega)))
    (apply dixl rfl rfl rfl rfl; (first | omega | assumption | (focus (simp; omega))); (first | rfl | assumption | (exact mapGet bT 0 (by omega))); rfl; rfl; rfl; rfl)
    refine dlic (v := .int _ _) rfl rfl rfl rfl rfl rfl rfl rfl ?_
    refine dcv rfl rfl rfl rfl rfl rfl rfl ?_
    refine dshl rfl rfl rfl ?_ rfl rfl rfl ?_
    · (first | omega | assumption | (focus (simp; omega)))
    refine dmL rfl rfl rfl rfl rfl ?_
    refine dmI rfl rfl rfl rfl rfl ?_
    refine dmulF rfl rfl rfl ?_ ?_ rfl rfl rfl ?_
    · (first | omega | assumption | (focus (simp; omega)))
    · (first | omega | assumption | (focus (simp; omega)))
    refine daddF rfl rfl rfl ?_ ?_ rfl rfl rfl ?_
    · (first | omega | assumption | (focus (simp; omega)))
    · (first | omega | assumption | (focus (simp; omega)))
    (apply dixl rfl rfl rfl rfl; (first | omega | assumption | (focus (simp; omega))); (first | rfl | assumption | (exact mapGet bT 0 (by omega))); rfl; rfl; rfl; rfl)
    refine dlic (v := .int _ _) rfl rfl rfl rfl rfl rfl rfl rfl ?_
    refine dcv rfl rfl rfl rfl rfl rfl rfl ?_
    refine dshl rfl rfl rfl ?_ rfl rfl rfl ?_
    · (first | omega | assumption | (focus (simp; omega)))
    refine dor rfl rfl rfl rfl rfl rfl ?_
    refine dmL rfl rfl rfl rfl rfl ?_
    refine dmI rfl rfl rfl rfl rfl ?_
    refine dmulF rfl rfl rfl ?_ ?_ rfl rfl rfl ?_
    · (first | omega | assumption | (focus (simp; omega)))
    · (first | omega | assumption | (focus (simp; omega)))
    refine daddF rfl rfl rfl ?_ ?_ rfl rfl rfl ?_
    · (first | omega | assumption | (focus (simp; omega)))
    · (first | omega | assumption | (focus (simp; omega)))
    (apply dixl rfl rfl rfl rfl; (first | omega | assumption | (focus (simp; omega))); (first | rfl | assumption | (exact mapGet bT 0 (by omega))); rfl; rfl; rfl; rfl)
    refine dlic (v := .int _ _) rfl rfl rfl rfl rfl rfl rfl rfl ?_
    refine dcv rfl rfl rfl rfl rfl rfl rfl ?_
    refine dshl rfl rfl rfl ?_ rfl rfl rfl ?_
    · (first | omega | assumption | (focus (simp; omega)))
    refine dor rfl rfl rfl rfl rfl rfl ?_
    refine dmL rfl rfl rfl rfl rfl ?_
    refine dmI rfl rfl rfl rfl rfl ?_
    refine dmulF rfl rfl rfl ?_ ?_ rfl rfl rfl ?_
    · (first | omega | assumption | (focus (simp; omega)))
    · (first | omega | assumption | (focus (simp; omega)))
    refine daddF rfl rfl rfl ?_ ?_ rfl rfl rfl ?_
    · (first | omega | assumption | (focus (simp; omega)))
    · (first | omega | assumption | (focus (simp; omega)))
    (apply dixl rfl rfl rfl rfl; (first | omega | assumption | (focus (simp; omega))); (first | rfl | assumption | (exact mapGet bT 0 (by omega))); rfl; rfl; rfl; rfl)
    refine dlic (v := .int _ _) rfl rfl rfl rfl rfl rfl rfl rfl ?_
    refine dcv rfl rfl rfl rfl rfl rfl rfl ?_
    refine dor rfl rfl rfl rfl rfl rfl ?_
    (refine dixA (c := 64) (s := 1) rfl rfl rfl rfl ?_ ?_ rfl rfl rfl ?_; (first | omega | assumption | (focus (simp; omega))); (first | omega | assumption | (focus (simp; omega))))
    (refine dst rfl rfl rfl rfl rfl rfl rfl rfl rfl ?_ (splW _ _ _ ?_) rfl rfl ?_; (show _ + 1 ≤ _; rw [List.length_map]; omega); omega)
    refine dNilR 36 [3, 0, 0, 0, 0, 0, 0, 0, 0, 0, 0, 0, 0, 0, 0, 0, 0, 0, 0, 0, 0, 0, 0, 0, 0, 0, 0, 0, 0, 0, 0, 0, 0, 0, 0, 0] [] rfl rfl (by decide +kernel) trivial ?_
    refine qBlock ?_
    refine qSeq ?_
    refine wRegion ?_
    refine raddF rfl rfl rfl ?_ ?_ rfl rfl rfl ?_
    · (first | omega | assumption | (focus (simp; omega)))
    · (first | omega | assumption | (focus (simp; omega)))
    refine rmI rfl rfl rfl rfl rfl ?_
    refine rNil ?_
    refine qLoop ?_
    exact wlH (ih (i + 1) (by omega) (by omega)) (by (repeat first | exact LE.nil _ | refine LE.unk _ _ ?_ | refine LE.eq _ _ _ rfl ?_)) (by (repeat first | exact lessH0 | (refine lessHc ?_ ?_; (first | (first | ((simp (disch := omega) only [↓app0, ↓appC, ↓updS, ↓updN, ↓hpS, ↓hpN]) <;> first | rfl | assumption) | assumption | rfl) | ((simp (disch := omega) only [app, upd, hp, if_pos, if_neg, Nat.zero_add, Nat.mul_one, Int.toNat_natCast]); first | (rw [W0_zero]; rfl) | (rw [W0_succ]; rfl)))))) (Nat.le_refl _)
  · refine rNil ?_
    refine qSeq ?_
    refine wSeq ?_
    refine wF rfl ?_
    refine wExit ?_
    refine qSeqX ?_
    refine qLoopX ?_
    refine qBlockX ?_
    refine qSeq ?_
    refine wSeq ?_
    refine wSeq ?_
    refine wRegion ?_
    refine raI rfl rfl rfl rfl rfl ?_
    refine rNil ?_
    refine qSeq ?_
    refine wBlock ?_
    refine wLoop ?_
    refine loopGo (fun (j : Nat) => [.unk, .unk, .ptr 0 0 0, .unk, .ptr 1 0 0, .ptr 2 0 0, .unk, .int .i64 ((16 + j : Nat) : Int)]) (fun (j : Nat) => hp [(0, ⟨[q.V], 8, 150⟩), (1, ⟨[List.replicate 8 (wV 0)], 8, 150⟩), (2, ⟨[(W1 (W0 B 16) j).map wV], 64, 164⟩)]) (fun (j : Nat) => 3) (fun (j : Nat) => j ≤ 48) (fun (j : Nat) => 48 - j) 0 ?_ ?_ ?_ ?_ ?_
    · exact Nat.zero_le _
    · (repeat first | exact LE.nil _ | refine LE.unk _ _ ?_ | refine LE.eq _ _ _ rfl ?_)
    · (repeat first | exact lessH0 | (refine lessHc ?_ ?_; (first | (first | ((simp (disch := omega) only [↓app0, ↓appC, ↓updS, ↓updN, ↓hpS, ↓hpN]) <;> first | rfl | assumption) | assumption | rfl) | ((simp (disch := omega) only [app, upd, hp, if_pos, if_neg, Nat.zero_add, Nat.mul_one, Int.toNat_natCast]); first | (rw [W1_zero, show (16 : Nat) = i by omega]; rfl) | (rw [W1_succ]; rfl)))))
    · exact Nat.le_refl _
    intro j hI ih
    have hL1 := W1_length (W0 B 16) (W0_length B 16) j
    refine lStep ?_
    refine wSeq ?_
    refine wSeq ?_
    refine wRegion ?_
    refine rmI rfl rfl rfl rfl rfl ?_
    refine rlt rfl rfl rfl rfl rfl rfl ?_ ?_ <;> intro h8_1
    · refine rNil ?_
      refine qSeq ?_
      refine wT rfl ?_
      refine wSkip ?_
      refine qSeq ?_
      refine wSeq ?_
      refine wBlock ?_
      refine wSeq ?_
      refine wDraw [0, 1, 3, 7, 0, 16, 48, 112, 15, 511] rfl (by decide +kernel) ?_
      refine dmI rfl rfl rfl rfl rfl ?_
      refine dsubF rfl rfl rfl ?_ ?_ rfl rfl rfl ?_
      · (first | omega | assumption | (focus (simp; omega)))
      · (first | omega | assumption | (focus (simp; omega)))
      (refine dixA (c := 64) (s := 1) rfl rfl rfl rfl ?_ ?_ rfl rfl rfl ?_; (first | omega | assumption | (focus (simp; omega))); (first | omega | assumption | (focus (simp; omega))))
      (apply dlc (v := .int _ _) rfl rfl; (first | ((simp (disch := omega) only [↓app0, ↓appC, ↓updS, ↓updN, ↓hpS, ↓hpN]) <;> first | rfl | assumption) | assumption | rfl); rfl; rfl; exact getW (by omega); rfl; rfl; rfl)
      refine dmI rfl rfl rfl rfl rfl ?_
      refine dsubF rfl rfl rfl ?_ ?_ rfl rfl rfl ?_
      · (first | omega | assumption | (focus (simp; omega)))
      · (first | omega | assumption | (focus (simp; omega)))
      (refine dixA (c := 64) (s := 1) rfl rfl rfl rfl ?_ ?_ rfl rfl rfl ?_; (first | omega | assumption | (focus (simp; omega))); (first | omega | assumption | (focus (simp; omega))))
      (apply dlc (v := .int _ _) rfl rfl; (first | ((simp (disch := omega) only [↓app0, ↓appC, ↓updS, ↓updN, ↓hpS, ↓hpN]) <;> first | rfl | assumption) | assumption | rfl); rfl; rfl; exact getW (by omega); rfl; rfl; rfl)
      refine daI rfl rfl rfl rfl rfl ?_
      refine daI rfl rfl rfl rfl rfl ?_
      refine dNilR 10 [0, 0, 1, 0, 0, 0, 1, 0, 0, 0] [] rfl rfl (by decide +kernel) trivial ?_
      refine qSeq ?_
      refine wDraw [0, 0, 2, 6, 14, 0, 32, 0, 224, 480, 0, 1024, 4064, 8190, 0, 16384, 49152, 114688, 262142, 0, 524768, 0, 3670496, 7864800, 0, 16777216, 66585056, 134217726, 268435455, 536870911] rfl (by decide +kernel) ?_
      refine dmI rfl rfl rfl rfl rfl ?_
      refine dmI rfl rfl rfl rfl rfl ?_
      refine dsubF rfl rfl rfl ?_ ?_ rfl rfl rfl ?_
      · (first | omega | assumption | (focus (simp; omega)))
      · (first | omega | assumption | (focus (simp; omega)))
      (refine dixA (c := 64) (s := 1) rfl rfl rfl rfl ?_ ?_ rfl rfl rfl ?_; (first | omega | assumption | (focus (simp; omega))); (first | omega | assumption | (focus (simp; omega))))
      (apply dlc (v := .int _ _) rfl rfl; (first | ((simp (disch := omega) only [↓app0, ↓appC, ↓updS, ↓updN, ↓hpS, ↓hpN]) <;> first | rfl | assumption) | assumption | rfl); rfl; rfl; exact getW (by omega); rfl; rfl; rfl)
      refine dmI rfl rfl rfl rfl rfl ?_
      refine dcl (e50 _ _ (by decide)) rfl rfl rfl rfl rfl rfl ?_
      refine dmI rfl rfl rfl rfl rfl ?_
      refine dcl (e50 _ _ (by decide)) rfl rfl rfl rfl rfl rfl ?_
      refine dxor rfl rfl rfl rfl rfl rfl ?_
      refine dmI rfl rfl rfl rfl rfl ?_
      refine dshr rfl rfl rfl ?_ rfl rfl rfl ?_
      · (first | omega | assumption | (focus (simp; omega)))
      refine dxor rfl rfl rfl rfl rfl rfl ?_
      refine dadd rfl rfl rfl rfl rfl rfl ?_
      refine dmI rfl rfl rfl rfl rfl ?_
      refine dsubF rfl rfl rfl ?_ ?_ rfl rfl rfl ?_
      · (first | omega | assumption | (focus (simp; omega)))
      · (first | omega | assumption | (focus (simp; omega)))
      (refine dixA (c := 64) (s := 1) rfl rfl rfl rfl ?_ ?_ rfl rfl rfl ?_; (first | omega | assumption | (focus (simp; omega))); (first | omega | assumption | (focus (simp; omega))))
      (apply dlc (v := .int _ _) rfl rfl; (first | ((simp (disch := omega) only [↓app0, ↓appC, ↓updS, ↓updN, ↓hpS, ↓hpN]) <;> first | rfl | assumption) | assumption | rfl); rfl; rfl; exact getW (by omega); rfl; rfl; rfl)
      refine dadd rfl rfl rfl rfl rfl rfl ?_
      refine dmI rfl rfl rfl rfl rfl ?_
      refine dcl (e50 _ _ (by decide)) rfl rfl rfl rfl rfl rfl ?_
      refine dmI rfl rfl rfl rfl rfl ?_
      refine dcl (e50 _ _ (by decide)) rfl rfl rfl rfl rfl rfl ?_
      refine dxor rfl rfl rfl rfl rfl rfl ?_
      refine dmI rfl rfl rfl rfl rfl ?_
      refine dshr rfl rfl rfl ?_ rfl rfl rfl ?_
      · (first | omega | assumption | (focus (simp; omega)))
      refine dxor rfl rfl rfl rfl rfl rfl ?_
      refine dadd rfl rfl rfl rfl rfl rfl ?_
      (refine dixA (c := 64) (s := 1) rfl rfl rfl rfl ?_ ?_ rfl rfl rfl ?_; (first | omega | assumption | (focus (simp; omega))); (first | omega | assumption | (focus (simp; omega))))
      (refine dst rfl rfl rfl rfl rfl rfl rfl rfl rfl ?_ (splW _ _ _ ?_) rfl rfl ?_; (show _ + 1 ≤ _; rw [List.length_map]; omega); omega)
      refine dNilR 30 [3, 0, 0, 0, 0, 0, 0, 0, 0, 0, 0, 0, 1, 0, 0, 0, 0, 0, 0, 0, 0, 0, 0, 0, 0, 1, 0, 0, 0, 0] [] rfl rfl (by decide +kernel) trivial ?_
      refine qBlock ?_
      refine qSeq ?_
      refine wRegion ?_
      refine rmI rfl rfl rfl rfl rfl ?_
      refine raddF rfl rfl rfl ?_ ?_ rfl rfl rfl ?_
      · (first | omega | assumption | (focus (simp; omega)))
      · (first | omega | assumption | (focus (simp; omega)))
      refine raI rfl rfl rfl rfl rfl ?_
      refine rNil ?_
      refine qLoop ?_
      exact wlH (ih (j + 1) (by omega) (by omega)) (by (repeat first | exact LE.nil _ | refine LE.unk _ _ ?_ | refine LE.eq _ _ _ rfl ?_)) (by (repeat first | exact lessH0 | (refine lessHc ?_ ?_; (first | (first | ((simp (disch := omega) only [↓app0, ↓appC, ↓updS, ↓updN, ↓hpS, ↓hpN]) <;> first | rfl | assumption) | assumption | rfl) | ((simp (disch := omega) only [app, upd, hp, if_pos, if_neg, Nat.zero_add, Nat.mul_one, Int.toNat_natCast]); first | (rw [W1_zero, show (16 : Nat) = i by omega]; rfl) | (rw [W1_succ]; rfl)))))) (Nat.le_refl _)
    · refine rNil ?_
      refine qSeq ?_
      refine wF rfl ?_
      refine wExit ?_
      refine qSeqX ?_
      refine qLoopX ?_
      refine qBlockX ?_
      refine qSeq ?_
      refine wSeq ?_
      refine wRegion ?_
      refine rlr (vs := [.int _ _, .int _ _, .int _ _, .int _ _, .int _ _, .int _ _, .int _ _, .int _ _]) rfl rfl rfl rfl rfl (Nat.le_of_ble_eq_true rfl) rfl rfl rfl rfl ?_
      refine ral rfl rfl rfl rfl rfl rfl ?_
      refine rst (u := .agg [.int _ _, .int _ _, .int _ _, .int _ _, .int _ _, .int _ _, .int _ _, .int _ _]) rfl rfl rfl rfl rfl rfl rfl rfl rfl (Nat.le_of_ble_eq_true rfl) rfl rfl rfl ?_
      refine rNil ?_
      refine qSeq ?_
      refine wSeq ?_
      refine wSeq ?_
      refine wRegion ?_
      refine rmI rfl rfl rfl rfl rfl ?_
      refine rNil ?_
      refine qSeq ?_
      refine wBlock ?_
      refine wLoop ?_
      refine loopGo (fun (i2 : Nat) => [.unk, .unk, .ptr 0 0 0, .unk, .ptr 1 0 0, .ptr 2 0 0, .unk, .unk, .unk, .unk, .ptr 3 0 0, .unk, .unk, .unk, .unk, .unk, .unk, .unk, .unk, .unk, .unk, .unk, .unk, .unk, .unk, .unk, .unk, .unk, .unk, .unk, .unk, .unk, .unk, .unk, .unk, .unk, .unk, .unk, .unk, .unk, .unk, .unk, .unk, .unk, .unk, .unk, .unk, .unk, .unk, .unk, .unk, .unk, .unk, .unk, .unk, .unk, .unk, .unk, .unk, .unk, .unk, .unk, .unk, .unk, .unk, .unk, .unk, .unk, .unk, .unk, .unk, .unk, .unk, .unk, .unk, .unk, .unk, .unk, .unk, .unk, .unk, .unk, .unk, .unk, .unk, .unk, .unk, .unk, .unk, .unk, .unk, .unk, .unk, .unk, .unk, .unk, .unk, .int .i64 i2]) (fun (i2 : Nat) => hp [(0, ⟨[q.V], 8, 150⟩), (1, ⟨[List.replicate 8 (wV 0)], 8, 150⟩), (2, ⟨[(sched B).map wV], 64, 164⟩), (3, ⟨[(rnds (sched B) q i2).V], 8, 150⟩)]) (fun (i2 : Nat) => 4) (fun (i2 : Nat) => i2 ≤ 64) (fun (i2 : Nat) => 64 - i2) 0 ?_ ?_ ?_ ?_ ?_
      · exact Nat.zero_le _
      · (repeat first | exact LE.nil _ | refine LE.unk _ _ ?_ | refine LE.eq _ _ _ rfl ?_)
      · (repeat first | exact lessH0 | (refine lessHc ?_ ?_; (first | (first | ((simp (disch := omega) only [↓app0, ↓appC, ↓updS, ↓updN, ↓hpS, ↓hpN]) <;> first | rfl | assumption) | assumption | rfl) | ((simp (disch := omega) only [app, upd, hp, if_pos, if_neg, Nat.zero_add, Nat.mul_one, Int.toNat_natCast]); first | (rw [rnds_zero]; rfl) | (rw [rnds_succ, hr]; rfl) | (unfold sched; rw [show (48 : Nat) = j by omega]; rfl)))))
      · exact Nat.le_refl _
      intro i2 hI ih
      have hL2 : (sched B).length = 64 := W1_length (W0 B 16) (W0_length B 16) 48
      generalize hr : rnds (sched B) q i2 = r
      refine lStep ?_
      refine wSeq ?_
      refine wRegion ?_
      refine rlt rfl rfl rfl rfl rfl rfl ?_ ?_ <;> intro h14_0
      · refine rNil ?_
        refine qSeq ?_
        refine wSeq ?_
        refine wT rfl ?_
        refine wSkip ?_
        refine qSeq ?_
        refine wSeq ?_
        refine wBlock ?_
        refine wSeq ?_
        refine wRegion ?_
        refine rmI rfl rfl rfl rfl rfl ?_
        refine raI rfl rfl rfl rfl rfl ?_
        refine rNil ?_
        refine qSeq ?_
        refine wSeq ?_
        refine wRegion ?_
        (refine rixA (c := 8) (s := 1) rfl rfl rfl rfl ?_ ?_ rfl rfl rfl ?_; (first | omega | assumption | (focus (simp; omega))); (first | omega | assumption | (focus (simp; omega))))
        refine rlc (v := .int _ _) rfl rfl rfl rfl rfl rfl rfl rfl rfl ?_
        refine raI rfl rfl rfl rfl rfl ?_
        refine rNil ?_
        refine qSeq ?_
        refine wSeq ?_
        refine wDraw [0, 1, 0, 4, 0, 28, 60, 0, 188, 508, 1023, 0, 0, 4096, 14336, 0, 32768, 0, 131072, 491520, 1046528, 2097151, 0, 4194304, 12582912, 33554431, 0, 67108864, 201326592, 536870911, 1073741823] rfl (by decide +kernel) ?_
        (refine dixA (c := 8) (s := 1) rfl rfl rfl rfl ?_ ?_ rfl rfl rfl ?_; (first | omega | assumption | (focus (simp; omega))); (first | omega | assumption | (focus (simp; omega))))
        refine dlc (v := .int _ _) rfl rfl rfl rfl rfl rfl rfl rfl rfl ?_
        refine dmI rfl rfl rfl rfl rfl ?_
        refine dcl (e50 _ _ (by decide)) rfl rfl rfl rfl rfl rfl ?_
        refine dmI rfl rfl rfl rfl rfl ?_
        refine dcl (e50 _ _ (by decide)) rfl rfl rfl rfl rfl rfl ?_
        refine dxor rfl rfl rfl rfl rfl rfl ?_
        refine dmI rfl rfl rfl rfl rfl ?_
        refine dcl (e50 _ _ (by decide)) rfl rfl rfl rfl rfl rfl ?_
        refine dxor rfl rfl rfl rfl rfl rfl ?_
        refine dadd rfl rfl rfl rfl rfl rfl ?_
        refine dmI rfl rfl rfl rfl rfl ?_
        (refine dixA (c := 8) (s := 1) rfl rfl rfl rfl ?_ ?_ rfl rfl rfl ?_; (first | omega | assumption | (focus (simp; omega))); (first | omega | assumption | (focus (simp; omega))))
        refine dlc (v := .int _ _) rfl rfl rfl rfl rfl rfl rfl rfl rfl ?_
        refine dand rfl rfl rfl rfl rfl rfl ?_
        refine dmI rfl rfl rfl rfl rfl ?_
        refine dcpl rfl rfl rfl rfl rfl ?_
        (refine dixA (c := 8) (s := 1) rfl rfl rfl rfl ?_ ?_ rfl rfl rfl ?_; (first | omega | assumption | (focus (simp; omega))); (first | omega | assumption | (focus (simp; omega))))
        refine dlc (v := .int _ _) rfl rfl rfl rfl rfl rfl rfl rfl rfl ?_
        refine dand rfl rfl rfl rfl rfl rfl ?_
        refine dor rfl rfl rfl rfl rfl rfl ?_
        refine dadd rfl rfl rfl rfl rfl rfl ?_
        refine dmI rfl rfl rfl rfl rfl ?_
        (refine dixAi (c := 64) (s := 1) rfl rfl rfl rfl ?_ ?_ rfl rfl rfl rfl ?_; (first | omega | assumption | (focus (simp; omega))); (first | omega | assumption | (focus (simp; omega))))
        (apply dlic (v := .int _ _) rfl rfl rfl; exact tabGet (by omega); rfl; rfl; rfl; rfl)
        refine dadd rfl rfl rfl rfl rfl rfl ?_
        refine dmI rfl rfl rfl rfl rfl ?_
        (refine dixA (c := 64) (s := 1) rfl rfl rfl rfl ?_ ?_ rfl rfl rfl ?_; (first | omega | assumption | (focus (simp; omega))); (first | omega | assumption | (focus (simp; omega))))
        (apply dlc (v := .int _ _) rfl rfl; (first | ((simp (disch := omega) only [↓app0, ↓appC, ↓updS, ↓updN, ↓hpS, ↓hpN]) <;> first | rfl | assumption) | assumption | rfl); rfl; rfl; exact getW (by omega); rfl; rfl; rfl)
        refine dadd rfl rfl rfl rfl rfl rfl ?_
        refine daI rfl rfl rfl rfl rfl ?_
        refine dNilR 31 [0, 0, 1, 0, 0, 0, 0, 0, 0, 0, 0, 0, 1, 0, 0, 0, 0, 1, 0, 0, 0, 0, 0, 0, 0, 0, 0, 0, 0, 1, 0] [] rfl rfl (by decide +kernel) trivial ?_
        refine qSeq ?_
        refine wSeq ?_
        refine wDraw [0, 1, 3, 0, 8, 31, 63, 0, 128, 447, 1023, 0, 2048, 0, 8192, 30720, 0, 65536, 0, 262144, 983040, 2095104, 0, 4194304, 0, 16777216, 62914560, 134215680, 268435455, 536870911] rfl (by decide +kernel) ?_
        (refine dixA (c := 8) (s := 1) rfl rfl rfl rfl ?_ ?_ rfl rfl rfl ?_; (first | omega | assumption | (focus (simp; omega))); (first | omega | assumption | (focus (simp; omega))))
        refine dlc (v := .int _ _) rfl rfl rfl rfl rfl rfl rfl rfl rfl ?_
        refine dcl (e50 _ _ (by decide)) rfl rfl rfl rfl rfl rfl ?_
        (refine dixA (c := 8) (s := 1) rfl rfl rfl rfl ?_ ?_ rfl rfl rfl ?_; (first | omega | assumption | (focus (simp; omega))); (first | omega | assumption | (focus (simp; omega))))
        refine dlc (v := .int _ _) rfl rfl rfl rfl rfl rfl rfl rfl rfl ?_
        refine dcl (e50 _ _ (by decide)) rfl rfl rfl rfl rfl rfl ?_
        refine dxor rfl rfl rfl rfl rfl rfl ?_
        (refine dixA (c := 8) (s := 1) rfl rfl rfl rfl ?_ ?_ rfl rfl rfl ?_; (first | omega | assumption | (focus (simp; omega))); (first | omega | assumption | (focus (simp; omega))))
        refine dlc (v := .int _ _) rfl rfl rfl rfl rfl rfl rfl rfl rfl ?_
        refine dcl (e50 _ _ (by decide)) rfl rfl rfl rfl rfl rfl ?_
        refine dxor rfl rfl rfl rfl rfl rfl ?_
        (refine dixA (c := 8) (s := 1) rfl rfl rfl rfl ?_ ?_ rfl rfl rfl ?_; (first | omega | assumption | (focus (simp; omega))); (first | omega | assumption | (focus (simp; omega))))
        refine dlc (v := .int _ _) rfl rfl rfl rfl rfl rfl rfl rfl rfl ?_
        (refine dixA (c := 8) (s := 1) rfl rfl rfl rfl ?_ ?_ rfl rfl rfl ?_; (first | omega | assumption | (focus (simp; omega))); (first | omega | assumption | (focus (simp; omega))))
        refine dlc (v := .int _ _) rfl rfl rfl rfl rfl rfl rfl rfl rfl ?_
        refine dand rfl rfl rfl rfl rfl rfl ?_
        (refine dixA (c := 8) (s := 1) rfl rfl rfl rfl ?_ ?_ rfl rfl rfl ?_; (first | omega | assumption | (focus (simp; omega))); (first | omega | assumption | (focus (simp; omega))))
        refine dlc (v := .int _ _) rfl rfl rfl rfl rfl rfl rfl rfl rfl ?_
        (refine dixA (c := 8) (s := 1) rfl rfl rfl rfl ?_ ?_ rfl rfl rfl ?_; (first | omega | assumption | (focus (simp; omega))); (first | omega | assumption | (focus (simp; omega))))
        refine dlc (v := .int _ _) rfl rfl rfl rfl rfl rfl rfl rfl rfl ?_
        refine dand rfl rfl rfl rfl rfl rfl ?_
        refine dxor rfl rfl rfl rfl rfl rfl ?_
        (refine dixA (c := 8) (s := 1) rfl rfl rfl rfl ?_ ?_ rfl rfl rfl ?_; (first | omega | assumption | (focus (simp; omega))); (first | omega | assumption | (focus (simp; omega))))
        refine dlc (v := .int _ _) rfl rfl rfl rfl rfl rfl rfl rfl rfl ?_
        (refine dixA (c := 8) (s := 1) rfl rfl rfl rfl ?_ ?_ rfl rfl rfl ?_; (first | omega | assumption | (focus (simp; omega))); (first | omega | assumption | (focus (simp; omega))))
        refine dlc (v := .int _ _) rfl rfl rfl rfl rfl rfl rfl rfl rfl ?_
        refine dand rfl rfl rfl rfl rfl rfl ?_
        refine dxor rfl rfl rfl rfl rfl rfl ?_
        refine dadd rfl rfl rfl rfl rfl rfl ?_
        refine daI rfl rfl rfl rfl rfl ?_
        refine dNilR 30 [0, 0, 0, 0, 1, 0, 1, 0, 0, 0, 1, 0, 1, 0, 0, 1, 0, 1, 0, 0, 0, 1, 0, 0, 0, 1, 0, 0, 1, 0] [] rfl rfl (by decide +kernel) trivial ?_
        refine qSeq ?_
        refine wRegion ?_
        refine rmI rfl rfl rfl rfl rfl ?_
        refine rmI rfl rfl rfl rfl rfl ?_
        refine radd rfl rfl rfl rfl rfl rfl ?_
        (refine rixA (c := 8) (s := 1) rfl rfl rfl rfl ?_ ?_ rfl rfl rfl ?_; (first | omega | assumption | (focus (simp; omega))); (first | omega | assumption | (focus (simp; omega))))
        refine rlc (v := .int _ _) rfl rfl rfl rfl rfl rfl rfl rfl rfl ?_
        (refine rixA (c := 8) (s := 1) rfl rfl rfl rfl ?_ ?_ rfl rfl rfl ?_; (first | omega | assumption | (focus (simp; omega))); (first | omega | assumption | (focus (simp; omega))))
        refine rlc (v := .int _ _) rfl rfl rfl rfl rfl rfl rfl rfl rfl ?_
        (refine rixA (c := 8) (s := 1) rfl rfl rfl rfl ?_ ?_ rfl rfl rfl ?_; (first | omega | assumption | (focus (simp; omega))); (first | omega | assumption | (focus (simp; omega))))
        refine rlc (v := .int _ _) rfl rfl rfl rfl rfl rfl rfl rfl rfl ?_
        (refine rixA (c := 8) (s := 1) rfl rfl rfl rfl ?_ ?_ rfl rfl rfl ?_; (first | omega | assumption | (focus (simp; omega))); (first | omega | assumption | (focus (simp; omega))))
        refine rlc (v := .int _ _) rfl rfl rfl rfl rfl rfl rfl rfl rfl ?_
        refine rmI rfl rfl rfl rfl rfl ?_
        refine radd rfl rfl rfl rfl rfl rfl ?_
        (refine rixA (c := 8) (s := 1) rfl rfl rfl rfl ?_ ?_ rfl rfl rfl ?_; (first | omega | assumption | (focus (simp; omega))); (first | omega | assumption | (focus (simp; omega))))
        refine rlc (v := .int _ _) rfl rfl rfl rfl rfl rfl rfl rfl rfl ?_
        (refine rixA (c := 8) (s := 1) rfl rfl rfl rfl ?_ ?_ rfl rfl rfl ?_; (first | omega | assumption | (focus (simp; omega))); (first | omega | assumption | (focus (simp; omega))))
        refine rlc (v := .int _ _) rfl rfl rfl rfl rfl rfl rfl rfl rfl ?_
        (refine rixA (c := 8) (s := 1) rfl rfl rfl rfl ?_ ?_ rfl rfl rfl ?_; (first | omega | assumption | (focus (simp; omega))); (first | omega | assumption | (focus (simp; omega))))
        refine rlc (v := .int _ _) rfl rfl rfl rfl rfl rfl rfl rfl rfl ?_
        refine rbd (cs := [.int _ _, .int _ _, .int _ _, .int _ _, .int _ _, .int _ _, .int _ _, .int _ _]) rfl rfl rfl rfl rfl ?_
        refine rst (u := .agg [.int _ _, .int _ _, .int _ _, .int _ _, .int _ _, .int _ _, .int _ _, .int _ _]) rfl rfl rfl rfl rfl rfl rfl rfl rfl (Nat.le_of_ble_eq_true rfl) rfl rfl rfl ?_
        refine rNil ?_
        refine qBlock ?_
        refine qSeq ?_
        refine wRegion ?_
        refine raddF rfl rfl rfl ?_ ?_ rfl rfl rfl ?_
        · (first | omega | assumption | (focus (simp; omega)))
        · (first | omega | assumption | (focus (simp; omega)))
        refine rmI rfl rfl rfl rfl rfl ?_
        refine rNil ?_
        refine qLoop ?_
        exact wlH (ih (i2 + 1) (by omega) (by omega)) (by (repeat first | exact LE.nil _ | refine LE.unk _ _ ?_ | refine LE.eq _ _ _ rfl ?_)) (by (repeat first | exact lessH0 | (refine lessHc ?_ ?_; (first | (first | ((simp (disch := omega) only [↓app0, ↓appC, ↓updS, ↓updN, ↓hpS, ↓hpN]) <;> first | rfl | assumption) | assumption | rfl) | ((simp (disch := omega) only [app, upd, hp, if_pos, if_neg, Nat.zero_add, Nat.mul_one, Int.toNat_natCast]); first | (rw [rnds_zero]; rfl) | (rw [rnds_succ, hr]; rfl) | (unfold sched; rw [show (48 : Nat) = j by omega]; rfl)))))) (Nat.le_refl _)
      · refine rNil ?_
        refine qSeq ?_
        refine wSeq ?_
        refine wF rfl ?_
        refine wExit ?_
        refine qSeqX ?_
        refine qLoopX ?_
        refine qBlockX ?_
        refine qSeq ?_
        refine wSeq ?_
        refine wSeq ?_
        refine wRegion ?_
        refine rmI rfl rfl rfl rfl rfl ?_
        refine rNil ?_
        refine qSeq ?_
        refine wBlock ?_
        refine wLoop ?_
        refine loopGo (fun (i3 : Nat) => [.unk, .unk, .ptr 0 0 0, .unk, .ptr 1 0 0, .unk, .unk, .unk, .unk, .unk, .ptr 3 0 0, .unk, .unk, .unk, .unk, .unk, .unk, .unk, .unk, .unk, .unk, .unk, .unk, .unk, .unk, .unk, .unk, .unk, .unk, .unk, .unk, .unk, .unk, .unk, .unk, .unk, .unk, .unk, .unk, .unk, .unk, .unk, .unk, .unk, .unk, .unk, .unk, .unk, .unk, .unk, .unk, .unk, .unk, .unk, .unk, .unk, .unk, .unk, .unk, .unk, .unk, .unk, .unk, .unk, .unk, .unk, .unk, .unk, .unk, .unk, .unk, .unk, .unk, .unk, .unk, .unk, .unk, .unk, .unk, .unk, .unk, .unk, .unk, .unk, .unk, .unk, .unk, .unk, .unk, .unk, .unk, .unk, .unk, .unk, .unk, .unk, .unk, .unk, .unk, .unk, .unk, .unk, .unk, .unk, .unk, .unk, .unk, .unk, .unk, .unk, .unk, .unk, .unk, .unk, .unk, .unk, .unk, .unk, .unk, .unk, .unk, .unk, .unk, .unk, .unk, .unk, .unk, .unk, .unk, .unk, .unk, .unk, .unk, .unk, .unk, .unk, .unk, .unk, .unk, .unk, .unk, .unk, .unk, .unk, .unk, .unk, .unk, .unk, .unk, .unk, .unk, .unk, .unk, .unk, .unk, .unk, .unk, .unk, .unk, .unk, .unk, .unk, .unk, .unk, .unk, .unk, .unk, .unk, .unk, .unk, .unk, .unk, .unk, .unk, .unk, .unk, .unk, .unk, .unk, .unk, .unk, .unk, .int .i64 i3]) (fun (i3 : Nat) => hp [(0, ⟨[(addW q (rnds (sched B) q 64) i3).map wV], 8, 150⟩), (1, ⟨[List.replicate 8 (wV 0)], 8, 150⟩), (3, ⟨[(rnds (sched B) q 64).L.map wV], 8, 150⟩)]) (fun (i3 : Nat) => 4) (fun (i3 : Nat) => i3 ≤ 8) (fun (i3 : Nat) => 8 - i3) 0 ?_ ?_ ?_ ?_ ?_
        · exact Nat.zero_le _
        · (repeat first | exact LE.nil _ | refine LE.unk _ _ ?_ | refine LE.eq _ _ _ rfl ?_)
        · (repeat first | exact lessH0 | (refine lessHc ?_ ?_; (first | (first | ((simp (disch := omega) only [↓app0, ↓appC, ↓updS, ↓updN, ↓hpS, ↓hpN]) <;> first | rfl | assumption) | assumption | rfl) | ((simp (disch := omega) only [app, upd, hp, if_pos, if_neg, Nat.zero_add, Nat.mul_one, Int.toNat_natCast]); first | (rw [addW_zero]; rfl) | (rw [show (64 : Nat) = i2 by omega, hr]; rfl) | (rw [addW_succ, hA]; rfl)))))
        · exact Nat.le_refl _
        intro i3 hI ih
        have hL3 := addW_length q (rnds (sched B) q 64) i3
        have hL4 : (rnds (sched B) q 64).L.length = 8 := rfl
        generalize hA : addW q (rnds (sched B) q 64) i3 = A8 at *
        obtain ⟨x0, x1, x2, x3, x4, x5, x6, x7, rfl⟩ := len8 hL3
        have hL5 : [x0, x1, x2, x3, x4, x5, x6, x7].length = 8 := rfl
        refine lStep ?_
        refine wSeq ?_
        refine wRegion ?_
        refine rlt rfl rfl rfl rfl rfl rfl ?_ ?_ <;> intro h22_0
        · refine rNil ?_
          refine qSeq ?_
          refine wSeq ?_
          refine wT rfl ?_
          refine wSkip ?_
          refine qSeq ?_
          refine wSeq ?_
          refine wBlock ?_
          refine wSeq ?_
          refine wRegion ?_
          refine rmI rfl rfl rfl rfl rfl ?_
          refine raI rfl rfl rfl rfl rfl ?_
          refine rNil ?_
          refine qSeq ?_
          refine wDraw [0, 1, 3, 0, 8, 24, 63, 127, 255] rfl (by decide +kernel) ?_
          refine dmI rfl rfl rfl rfl rfl ?_
          (refine dixA (c := 8) (s := 1) rfl rfl rfl rfl ?_ ?_ rfl rfl rfl ?_; (first | omega | assumption | (focus (simp; omega))); (first | omega | assumption | (focus (simp; omega))))
          (apply dlc (v := .int _ _) rfl rfl; (first | ((simp (disch := omega) only [↓app0, ↓appC, ↓updS, ↓updN, ↓hpS, ↓hpN]) <;> first | rfl | assumption) | assumption | rfl); rfl; rfl; exact getW (by omega); rfl; rfl; rfl)
          refine dmI rfl rfl rfl rfl rfl ?_
          (refine dixA (c := 8) (s := 1) rfl rfl rfl rfl ?_ ?_ rfl rfl rfl ?_; (first | omega | assumption | (focus (simp; omega))); (first | omega | assumption | (focus (simp; omega))))
          (apply dlc (v := .int _ _) rfl rfl; (first | ((simp (disch := omega) only [↓app0, ↓appC, ↓updS, ↓updN, ↓hpS, ↓hpN]) <;> first | rfl | assumption) | assumption | rfl); rfl; rfl; exact getW (by omega); rfl; rfl; rfl)
          refine dadd rfl rfl rfl rfl rfl rfl ?_
          (refine dixA (c := 8) (s := 1) rfl rfl rfl rfl ?_ ?_ rfl rfl rfl ?_; (first | omega | assumption | (focus (simp; omega))); (first | omega | assumption | (focus (simp; omega))))
          (refine dst rfl rfl rfl rfl rfl rfl rfl rfl rfl ?_ (splW _ _ _ ?_) rfl rfl ?_; (show _ + 1 ≤ _; rw [List.length_map]; omega); omega)
          refine dNilR 9 [3, 0, 0, 1, 0, 0, 1, 0, 0] [] rfl rfl (by decide +kernel) trivial ?_
          refine qBlock ?_
          refine qSeq ?_
          refine wRegion ?_
          refine raddF rfl rfl rfl ?_ ?_ rfl rfl rfl ?_
          · (first | omega | assumption | (focus (simp; omega)))
          · (first | omega | assumption | (focus (simp; omega)))
          refine rmI rfl rfl rfl rfl rfl ?_
          refine rNil ?_
          refine qLoop ?_
          exact wlH (ih (i3 + 1) (by omega) (by omega)) (by (repeat first | exact LE.nil _ | refine LE.unk _ _ ?_ | refine LE.eq _ _ _ rfl ?_)) (by (repeat first | exact lessH0 | (refine lessHc ?_ ?_; (first | (first | ((simp (disch := omega) only [↓app0, ↓appC, ↓updS, ↓updN, ↓hpS, ↓hpN]) <;> first | rfl | assumption) | assumption | rfl) | ((simp (disch := omega) only [app, upd, hp, if_pos, if_neg, Nat.zero_add, Nat.mul_one, Int.toNat_natCast]); first | (rw [addW_zero]; rfl) | (rw [show (64 : Nat) = i2 by omega, hr]; rfl) | (rw [addW_succ, hA]; rfl)))))) (Nat.le_refl _)
        · refine rNil ?_
          refine qSeq ?_
          refine wSeq ?_
          refine wF rfl ?_
          refine wExit ?_
          refine qSeqX ?_
          refine qLoopX ?_
          refine qBlockX ?_
          refine qSeq ?_
          refine wSeq ?_
          refine wRegion ?_
          refine rlr (vs := [.int _ _, .int _ _, .int _ _, .int _ _, .int _ _, .int _ _, .int _ _, .int _ _]) rfl rfl rfl rfl rfl (Nat.le_of_ble_eq_true rfl) rfl rfl rfl rfl ?_
          refine rst (u := .agg [.int _ _, .int _ _, .int _ _, .int _ _, .int _ _, .int _ _, .int _ _, .int _ _]) rfl rfl rfl rfl rfl rfl rfl rfl rfl (Nat.le_of_ble_eq_true rfl) rfl rfl rfl ?_
          refine rNil ?_
          refine qSeq ?_
          refine wRet ?_
          have h8 := hA
          rw [show i3 = 8 by omega, addW_end] at h8
          simp only [List.cons.injEq, and_true] at h8
          obtain ⟨rfl, rfl, rfl, rfl, rfl, rfl, rfl, rfl⟩ := h8
          exact fin rfl rfl
end Go.Proofs.YtcafccndgpopkaaDoor
