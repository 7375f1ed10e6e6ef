import Derived.Test.YtcafccndgpopkaaDoorT1
import Derived.Test.YtcafccndgpopkaaDoorVr
namespace Go.Proofs.YtcafccndgpopkaaDoor
open Go.V
set_option linter.unusedVariables false
set_option linter.unusedSimpArgs false
set_option maxRecDepth 20000
set_option maxHeartbeats 4000000

def uV (x : Int) : List V := [.int .u32 x]
def uT (x : Int) : List T := [.int .u32 x]
theorem wbF (F : List Int) {off i : Nat} (hi : i < 16) (ho : off + 64 ≤ F.length) : wbB ((F.drop off).take 64) i = orb (orb (orb (sl (IntKind.u32.wrap (F.getD (off + (4 * (i : Int)).toNat) 0)) 24) (sl (IntKind.u32.wrap (F.getD (off + (4 * (i : Int) + 1).toNat) 0)) 16)) (sl (IntKind.u32.wrap (F.getD (off + (4 * (i : Int) + 2).toNat) 0)) 8)) (IntKind.u32.wrap (F.getD (off + (4 * (i : Int) + 3).toNat) 0)) := by
  have g : ∀ k, k < 64 → ((F.drop off).take 64).getD k 0 = F.getD (off + k) 0 := fun k hk => by
    rw [List.getD_eq_getElem?_getD, List.getD_eq_getElem?_getD, List.getElem?_take_of_lt hk, List.getElem?_drop]
  unfold wbB
  rw [g _ (by omega), g _ (by omega), g _ (by omega), g _ (by omega)]
theorem rnd_x (r : W8) (k w : Int) : rnd r k w = (let p := ad (ad (ad (ad r.h (xo (xo (rt r.e 6) (rt r.e 11)) (rt r.e 25))) (xo (anb r.e r.f) (anb (xo (if IntKind.u32.signed = true then -1 else IntKind.u32.max) r.e) r.g))) k) w
  let q := ad (xo (xo (rt r.a 2) (rt r.a 13)) (rt r.a 22)) (xo (xo (anb r.a r.b) (anb r.a r.c)) (anb r.b r.c))
  ⟨ad p q, r.a, r.b, r.c, ad r.d p, r.e, r.f, r.g⟩) := by
  unfold rnd; rw [ch_eq]
theorem e118 (q : W8) (F : List Int) (fr nn : Bool) {hb ab off : Nat} {h : Heap} {n : Nat} (hh : hb < n) (ha : ab < n) (hne : ab ≠ hb) (ho : off + 64 ≤ F.length) (k1 : h hb = some ⟨q.L.map uV, 1, 146⟩) (k2 : h ab = some ⟨F.map bV, 1, 5⟩) :
    V.Open En 118 [.view hb 0 8, .view ab off 64, .sl fr nn (roundW.map uT)] h n (.tup []) [(hb, some ⟨(blk8 q ((F.drop off).take 64)).L.map uV, 1, 146⟩)] (n + 3 + 64) := by
  refine V.Open.fresh rfl (by omega) fun hz => ?_
  refine V.Open.of_wp Tryd.func118 rfl (Nat.le_of_ble_eq_true rfl) ?_
  refine wSeq ?_
  refine wRegion ?_
  refine rmk (s' := 4) rfl rfl rfl rfl rfl rfl (Nat.succ_ne_zero _) ?_ ?_ rfl rfl rfl ?_
  · (first | omega | assumption | decide | (focus (simp; done)) | (focus (simp; omega)))
  · (first | omega | assumption | decide | (focus (simp; done)) | (focus (simp; omega)))
  refine raV rfl rfl rfl rfl rfl ?_
  refine rNil ?_
  refine qSeq ?_
  refine wSeq ?_
  refine wSeq ?_
  refine wRegion ?_
  refine raI rfl rfl rfl rfl rfl ?_
  refine rNil ?_
  refine qSeq ?_
  refine wBlock ?_
  refine wLoop ?_
  refine loopGo (fun (i : Nat) => [.view hb 0 8, .view ab off 64, .sl fr nn (roundW.map uT), .unk, .unk, .unk, .view n 0 64, .int .i64 i]) (fun (i : Nat) => app [(n, some ⟨(W0 ((F.drop off).take 64) i).map uV, 1, 146⟩)] h) (fun (i : Nat) => n + 1) (fun (i : Nat) => i ≤ 16) (fun (i : Nat) => 16 - i) 0 ?_ ?_ ?_ ?_ ?_
  · exact Nat.zero_le _
  · (repeat first | exact LE.nil _ | refine LE.unk _ _ ?_ | refine LE.eq _ _ _ rfl ?_)
  · refine lessApp (n := n) hz (fun jx hj => ?_) (fun jx hl hn => ?_)
    · simp only [List.map_cons, List.map_nil, List.mem_cons, List.not_mem_nil, or_false] at hj
      rcases hj with rfl <;> (simp (disch := omega) only [↓app0, ↓appC, ↓updS, ↓updN, ↓hpS, ↓hpN]) <;> first | rfl | assumption | (refine congrArg (fun z => some (Blk.mk z 1 146)) ?_; rw [W0_zero, List.map_replicate]; rfl; done)
    · simp only [List.map_cons, List.map_nil, List.mem_cons, List.not_mem_nil, or_false, not_or] at hn
      (simp (disch := omega) only [↓app0, ↓appC, ↓updS, ↓updN, ↓hpS, ↓hpN])
  · exact Nat.le_refl _
  intro i hI ih
  have hL0 := W0_length ((F.drop off).take 64) i
  refine lStep ?_
  refine wSeq ?_
  refine wSeq ?_
  refine wRegion ?_
  refine rmI rfl rfl rfl rfl rfl ?_
  refine rlt rfl rfl rfl rfl rfl rfl ?_ ?_ <;> intro h2_1
  · refine rNil ?_
    refine qSeq ?_
    refine wT rfl ?_
    refine wSkip ?_
    refine qSeq ?_
    refine wSeq ?_
    refine wBlock ?_
    refine wDraw [0, 0, 0, 0, 8, 28, 60, 124, 252, 0, 0, 1024, 3072, 7680, 15872, 32256, 65024, 131068, 0, 0, 524288, 1572864, 3932160, 8126464, 16515072, 33292288, 67108860, 0, 0, 268435456, 805306368, 2013265920, 4160749568, 8455716864, 17179869180, 34359738367, 68719476735] rfl (by decide +kernel) ?_
    refine dmV rfl rfl rfl rfl rfl ?_
    refine dmI rfl rfl rfl rfl rfl ?_
    refine dmV rfl rfl rfl rfl rfl ?_
    refine dmI rfl rfl rfl rfl rfl ?_
    refine dmulF rfl rfl rfl ?_ ?_ rfl rfl rfl ?_
    · (first | omega | assumption | decide | (focus (simp; done)) | (focus (simp; omega)))
    · (first | omega | assumption | decide | (focus (simp; done)) | (focus (simp; omega)))
    (apply dixv rfl rfl rfl rfl; (first | ((simp (disch := omega) only [↓app0, ↓appC, ↓updS, ↓updN, ↓hpS, ↓hpN]) <;> first | rfl | assumption) | assumption | rfl); rfl; (first | omega | assumption | decide | (focus (simp; done)) | (focus (simp; omega))); (first | omega | assumption | decide | (focus (simp; done)) | (focus (simp; omega))); rfl; rfl; rfl)
    (apply dlc (v := .int .u8 _) rfl rfl; (first | ((simp (disch := omega) only [↓app0, ↓appC, ↓updS, ↓updN, ↓hpS, ↓hpN]) <;> first | rfl | assumption) | assumption | rfl); exact mapGet bV 0 (by omega); rfl; rfl; rfl; rfl; rfl)
    refine dcv rfl rfl rfl rfl rfl rfl rfl ?_
    refine dshl rfl rfl rfl ?_ rfl rfl rfl ?_
    · (first | omega | assumption | decide | (focus (simp; done)) | (focus (simp; omega)))
    refine dmV rfl rfl rfl rfl rfl ?_
    refine dmI rfl rfl rfl rfl rfl ?_
    refine dmulF rfl rfl rfl ?_ ?_ rfl rfl rfl ?_
    · (first | omega | assumption | decide | (focus (simp; done)) | (focus (simp; omega)))
    · (first | omega | assumption | decide | (focus (simp; done)) | (focus (simp; omega)))
    refine daddF rfl rfl rfl ?_ ?_ rfl rfl rfl ?_
    · (first | omega | assumption | decide | (focus (simp; done)) | (focus (simp; omega)))
    · (first | omega | assumption | decide | (focus (simp; done)) | (focus (simp; omega)))
    (apply dixv rfl rfl rfl rfl; (first | ((simp (disch := omega) only [↓app0, ↓appC, ↓updS, ↓updN, ↓hpS, ↓hpN]) <;> first | rfl | assumption) | assumption | rfl); rfl; (first | omega | assumption | decide | (focus (simp; done)) | (focus (simp; omega))); (first | omega | assumption | decide | (focus (simp; done)) | (focus (simp; omega))); rfl; rfl; rfl)
    (apply dlc (v := .int .u8 _) rfl rfl; (first | ((simp (disch := omega) only [↓app0, ↓appC, ↓updS, ↓updN, ↓hpS, ↓hpN]) <;> first | rfl | assumption) | assumption | rfl); exact mapGet bV 0 (by omega); rfl; rfl; rfl; rfl; rfl)
    refine dcv rfl rfl rfl rfl rfl rfl rfl ?_
    refine dshl rfl rfl rfl ?_ rfl rfl rfl ?_
    · (first | omega | assumption | decide | (focus (simp; done)) | (focus (simp; omega)))
    refine dor rfl rfl rfl rfl rfl rfl ?_
    refine dmV rfl rfl rfl rfl rfl ?_
    refine dmI rfl rfl rfl rfl rfl ?_
    refine dmulF rfl rfl rfl ?_ ?_ rfl rfl rfl ?_
    · (first | omega | assumption | decide | (focus (simp; done)) | (focus (simp; omega)))
    · (first | omega | assumption | decide | (focus (simp; done)) | (focus (simp; omega)))
    refine daddF rfl rfl rfl ?_ ?_ rfl rfl rfl ?_
    · (first | omega | assumption | decide | (focus (simp; done)) | (focus (simp; omega)))
    · (first | omega | assumption | decide | (focus (simp; done)) | (focus (simp; omega)))
    (apply dixv rfl rfl rfl rfl; (first | ((simp (disch := omega) only [↓app0, ↓appC, ↓updS, ↓updN, ↓hpS, ↓hpN]) <;> first | rfl | assumption) | assumption | rfl); rfl; (first | omega | assumption | decide | (focus (simp; done)) | (focus (simp; omega))); (first | omega | assumption | decide | (focus (simp; done)) | (focus (simp; omega))); rfl; rfl; rfl)
    (apply dlc (v := .int .u8 _) rfl rfl; (first | ((simp (disch := omega) only [↓app0, ↓appC, ↓updS, ↓updN, ↓hpS, ↓hpN]) <;> first | rfl | assumption) | assumption | rfl); exact mapGet bV 0 (by omega); rfl; rfl; rfl; rfl; rfl)
    refine dcv rfl rfl rfl rfl rfl rfl rfl ?_
    refine dshl rfl rfl rfl ?_ rfl rfl rfl ?_
    · (first | omega | assumption | decide | (focus (simp; done)) | (focus (simp; omega)))
    refine dor rfl rfl rfl rfl rfl rfl ?_
    refine dmV rfl rfl rfl rfl rfl ?_
    refine dmI rfl rfl rfl rfl rfl ?_
    refine dmulF rfl rfl rfl ?_ ?_ rfl rfl rfl ?_
    · (first | omega | assumption | decide | (focus (simp; done)) | (focus (simp; omega)))
    · (first | omega | assumption | decide | (focus (simp; done)) | (focus (simp; omega)))
    refine daddF rfl rfl rfl ?_ ?_ rfl rfl rfl ?_
    · (first | omega | assumption | decide | (focus (simp; done)) | (focus (simp; omega)))
    · (first | omega | assumption | decide | (focus (simp; done)) | (focus (simp; omega)))
    (apply dixv rfl rfl rfl rfl; (first | ((simp (disch := omega) only [↓app0, ↓appC, ↓updS, ↓updN, ↓hpS, ↓hpN]) <;> first | rfl | assumption) | assumption | rfl); rfl; (first | omega | assumption | decide | (focus (simp; done)) | (focus (simp; omega))); (first | omega | assumption | decide | (focus (simp; done)) | (focus (simp; omega))); rfl; rfl; rfl)
    (apply dlc (v := .int .u8 _) rfl rfl; (first | ((simp (disch := omega) only [↓app0, ↓appC, ↓updS, ↓updN, ↓hpS, ↓hpN]) <;> first | rfl | assumption) | assumption | rfl); exact mapGet bV 0 (by omega); rfl; rfl; rfl; rfl; rfl)
    refine dcv rfl rfl rfl rfl rfl rfl rfl ?_
    refine dor rfl rfl rfl rfl rfl rfl ?_
    (apply dixv rfl rfl rfl rfl; (first | ((simp (disch := omega) only [↓app0, ↓appC, ↓updS, ↓updN, ↓hpS, ↓hpN]) <;> first | rfl | assumption) | assumption | rfl); rfl; (first | omega | assumption | decide | (focus (simp; done)) | (focus (simp; omega))); (first | omega | assumption | decide | (focus (simp; done)) | (focus (simp; omega))); rfl; rfl; rfl)
    (apply dst (u := .int .u32 _) rfl rfl rfl; (first | ((simp (disch := omega) only [↓app0, ↓appC, ↓updS, ↓updN, ↓hpS, ↓hpN]) <;> first | rfl | assumption) | assumption | rfl); exact mapGet uV 0 (by omega); rfl; rfl; rfl; rfl; (exact Nat.le_of_ble_eq_true rfl); rfl; rfl; rfl)
    refine dNilR 37 [3, 1, 0, 0, 1, 1, 0, 0, 0, 0, 0, 0, 0, 1, 1, 0, 0, 0, 0, 0, 0, 0, 1, 1, 0, 0, 0, 0, 0, 0, 1, 1, 0, 0, 0, 0, 0] [] rfl rfl (by decide +kernel) trivial ?_
    refine qBlock ?_
    refine qSeq ?_
    refine wRegion ?_
    refine rmI rfl rfl rfl rfl rfl ?_
    refine raddF rfl rfl rfl ?_ ?_ rfl rfl rfl ?_
    · (first | omega | assumption | decide | (focus (simp; done)) | (focus (simp; omega)))
    · (first | omega | assumption | decide | (focus (simp; done)) | (focus (simp; omega)))
    refine raI rfl rfl rfl rfl rfl ?_
    refine rNil ?_
    refine qLoop ?_
    exact wlH (ih (i + 1) (by omega) (by omega)) (by (repeat first | exact LE.nil _ | refine LE.unk _ _ ?_ | refine LE.eq _ _ _ rfl ?_)) (by
      refine lessApp (n := n) hz (fun jx hj => ?_) (fun jx hl hn => ?_)
      · simp only [List.map_cons, List.map_nil, List.mem_cons, List.not_mem_nil, or_false] at hj
        rcases hj with rfl <;> (simp (disch := omega) only [↓app0, ↓appC, ↓updS, ↓updN, ↓hpS, ↓hpN]) <;> first | rfl | assumption | (refine congrArg (fun z => some (Blk.mk z 1 146)) ?_; rw [W0_succ, List.map_set, wbF F (by omega) ho]; (try simp only [Nat.zero_add, Nat.mul_one, Int.toNat_natCast]); rfl; done)
      · simp only [List.map_cons, List.map_nil, List.mem_cons, List.not_mem_nil, or_false, not_or] at hn
        (simp (disch := omega) only [↓app0, ↓appC, ↓updS, ↓updN, ↓hpS, ↓hpN])) (Nat.le_refl _)
  · refine rNil ?_
    refine qSeq ?_
    refine wF rfl ?_
    refine wExit ?_
    refine qSeqX ?_
    refine qLoopX ?_
    refine qBlockX ?_
    refine qSeq ?_
    refine wSeq ?_
    refine wSeq ?_
    refine wRegion ?_
    refine raI rfl rfl rfl rfl rfl ?_
    refine rNil ?_
    refine qSeq ?_
    refine wBlock ?_
    refine wLoop ?_
    refine loopGo (fun (j : Nat) => [.view hb 0 8, .unk, .sl fr nn (roundW.map uT), .unk, .unk, .unk, .view n 0 64, .unk, .int .i64 ((16 + j : Nat) : Int)]) (fun (j : Nat) => app [(n, some ⟨(W1 (W0 ((F.drop off).take 64) 16) j).map uV, 1, 146⟩)] h) (fun (j : Nat) => n + 1) (fun (j : Nat) => j ≤ 48) (fun (j : Nat) => 48 - j) 0 ?_ ?_ ?_ ?_ ?_
    · exact Nat.zero_le _
    · (repeat first | exact LE.nil _ | refine LE.unk _ _ ?_ | refine LE.eq _ _ _ rfl ?_)
    · refine lessApp (n := n) hz (fun jx hj => ?_) (fun jx hl hn => ?_)
      · simp only [List.map_cons, List.map_nil, List.mem_cons, List.not_mem_nil, or_false] at hj
        rcases hj with rfl <;> (simp (disch := omega) only [↓app0, ↓appC, ↓updS, ↓updN, ↓hpS, ↓hpN]) <;> first | rfl | assumption | (refine congrArg (fun z => some (Blk.mk z 1 146)) ?_; rw [W1_zero, show (16 : Nat) = i by omega]; done)
      · simp only [List.map_cons, List.map_nil, List.mem_cons, List.not_mem_nil, or_false, not_or] at hn
        (simp (disch := omega) only [↓app0, ↓appC, ↓updS, ↓updN, ↓hpS, ↓hpN])
    · exact Nat.le_refl _
    intro j hI ih
    have hL1 := W1_length (W0 ((F.drop off).take 64) 16) (W0_length ((F.drop off).take 64) 16) j
    refine lStep ?_
    refine wSeq ?_
    refine wSeq ?_
    refine wRegion ?_
    refine rmI rfl rfl rfl rfl rfl ?_
    refine rlt rfl rfl rfl rfl rfl rfl ?_ ?_ <;> intro h6_1
    · refine rNil ?_
      refine qSeq ?_
      refine wT rfl ?_
      refine wSkip ?_
      refine qSeq ?_
      refine wSeq ?_
      refine wBlock ?_
      refine wSeq ?_
      refine wRegion ?_
      refine rmV rfl rfl rfl rfl rfl ?_
      refine rmI rfl rfl rfl rfl rfl ?_
      refine rsubF rfl rfl rfl ?_ ?_ rfl rfl rfl ?_
      · (first | omega | assumption | decide | (focus (simp; done)) | (focus (simp; omega)))
      · (first | omega | assumption | decide | (focus (simp; done)) | (focus (simp; omega)))
      (apply rixv rfl rfl rfl rfl; (first | ((simp (disch := omega) only [↓app0, ↓appC, ↓updS, ↓updN, ↓hpS, ↓hpN]) <;> first | rfl | assumption) | assumption | rfl); rfl; (first | omega | assumption | decide | (focus (simp; done)) | (focus (simp; omega))); (first | omega | assumption | decide | (focus (simp; done)) | (focus (simp; omega))); rfl; rfl; rfl)
      (apply rlc (v := .int .u32 _) rfl rfl; (first | ((simp (disch := omega) only [↓app0, ↓appC, ↓updS, ↓updN, ↓hpS, ↓hpN]) <;> first | rfl | assumption) | assumption | rfl); exact mapGet uV 0 (by omega); rfl; rfl; rfl; rfl; rfl)
      refine raI rfl rfl rfl rfl rfl ?_
      refine rNil ?_
      refine qSeq ?_
      refine wSeq ?_
      refine wRegion ?_
      refine rmV rfl rfl rfl rfl rfl ?_
      refine rmI rfl rfl rfl rfl rfl ?_
      refine rsubF rfl rfl rfl ?_ ?_ rfl rfl rfl ?_
      · (first | omega | assumption | decide | (focus (simp; done)) | (focus (simp; omega)))
      · (first | omega | assumption | decide | (focus (simp; done)) | (focus (simp; omega)))
      (apply rixv rfl rfl rfl rfl; (first | ((simp (disch := omega) only [↓app0, ↓appC, ↓updS, ↓updN, ↓hpS, ↓hpN]) <;> first | rfl | assumption) | assumption | rfl); rfl; (first | omega | assumption | decide | (focus (simp; done)) | (focus (simp; omega))); (first | omega | assumption | decide | (focus (simp; done)) | (focus (simp; omega))); rfl; rfl; rfl)
      (apply rlc (v := .int .u32 _) rfl rfl; (first | ((simp (disch := omega) only [↓app0, ↓appC, ↓updS, ↓updN, ↓hpS, ↓hpN]) <;> first | rfl | assumption) | assumption | rfl); exact mapGet uV 0 (by omega); rfl; rfl; rfl; rfl; rfl)
      refine raI rfl rfl rfl rfl rfl ?_
      refine rNil ?_
      refine qSeq ?_
      refine wDraw [0, 0, 0, 0, 8, 28, 60, 0, 128, 0, 896, 1920, 0, 4096, 16256, 32764, 0, 0, 131072, 458752, 983040, 2097148, 0, 4196224, 0, 29362048, 62916480, 0, 134217728, 532678528, 1073741820, 2147483647, 4294967295] rfl (by decide +kernel) ?_
      refine dmV rfl rfl rfl rfl rfl ?_
      refine dmI rfl rfl rfl rfl rfl ?_
      refine dmV rfl rfl rfl rfl rfl ?_
      refine dmI rfl rfl rfl rfl rfl ?_
      refine dsubF rfl rfl rfl ?_ ?_ rfl rfl rfl ?_
      · (first | omega | assumption | decide | (focus (simp; done)) | (focus (simp; omega)))
      · (first | omega | assumption | decide | (focus (simp; done)) | (focus (simp; omega)))
      (apply dixv rfl rfl rfl rfl; (first | ((simp (disch := omega) only [↓app0, ↓appC, ↓updS, ↓updN, ↓hpS, ↓hpN]) <;> first | rfl | assumption) | assumption | rfl); rfl; (first | omega | assumption | decide | (focus (simp; done)) | (focus (simp; omega))); (first | omega | assumption | decide | (focus (simp; done)) | (focus (simp; omega))); rfl; rfl; rfl)
      (apply dlc (v := .int .u32 _) rfl rfl; (first | ((simp (disch := omega) only [↓app0, ↓appC, ↓updS, ↓updN, ↓hpS, ↓hpN]) <;> first | rfl | assumption) | assumption | rfl); exact mapGet uV 0 (by omega); rfl; rfl; rfl; rfl; rfl)
      refine dmI rfl rfl rfl rfl rfl ?_
      refine dcl (e127 _ _ (by decide)) rfl rfl rfl rfl rfl rfl ?_
      refine dmI rfl rfl rfl rfl rfl ?_
      refine dcl (e127 _ _ (by decide)) rfl rfl rfl rfl rfl rfl ?_
      refine dxor rfl rfl rfl rfl rfl rfl ?_
      refine dmI rfl rfl rfl rfl rfl ?_
      refine dshr rfl rfl rfl ?_ rfl rfl rfl ?_
      · (first | omega | assumption | decide | (focus (simp; done)) | (focus (simp; omega)))
      refine dxor rfl rfl rfl rfl rfl rfl ?_
      refine dadd rfl rfl rfl rfl rfl rfl ?_
      refine dmV rfl rfl rfl rfl rfl ?_
      refine dmI rfl rfl rfl rfl rfl ?_
      refine dsubF rfl rfl rfl ?_ ?_ rfl rfl rfl ?_
      · (first | omega | assumption | decide | (focus (simp; done)) | (focus (simp; omega)))
      · (first | omega | assumption | decide | (focus (simp; done)) | (focus (simp; omega)))
      (apply dixv rfl rfl rfl rfl; (first | ((simp (disch := omega) only [↓app0, ↓appC, ↓updS, ↓updN, ↓hpS, ↓hpN]) <;> first | rfl | assumption) | assumption | rfl); rfl; (first | omega | assumption | decide | (focus (simp; done)) | (focus (simp; omega))); (first | omega | assumption | decide | (focus (simp; done)) | (focus (simp; omega))); rfl; rfl; rfl)
      (apply dlc (v := .int .u32 _) rfl rfl; (first | ((simp (disch := omega) only [↓app0, ↓appC, ↓updS, ↓updN, ↓hpS, ↓hpN]) <;> first | rfl | assumption) | assumption | rfl); exact mapGet uV 0 (by omega); rfl; rfl; rfl; rfl; rfl)
      refine dadd rfl rfl rfl rfl rfl rfl ?_
      refine dmI rfl rfl rfl rfl rfl ?_
      refine dcl (e127 _ _ (by decide)) rfl rfl rfl rfl rfl rfl ?_
      refine dmI rfl rfl rfl rfl rfl ?_
      refine dcl (e127 _ _ (by decide)) rfl rfl rfl rfl rfl rfl ?_
      refine dxor rfl rfl rfl rfl rfl rfl ?_
      refine dmI rfl rfl rfl rfl rfl ?_
      refine dshr rfl rfl rfl ?_ rfl rfl rfl ?_
      · (first | omega | assumption | decide | (focus (simp; done)) | (focus (simp; omega)))
      refine dxor rfl rfl rfl rfl rfl rfl ?_
      refine dadd rfl rfl rfl rfl rfl rfl ?_
      (apply dixv rfl rfl rfl rfl; (first | ((simp (disch := omega) only [↓app0, ↓appC, ↓updS, ↓updN, ↓hpS, ↓hpN]) <;> first | rfl | assumption) | assumption | rfl); rfl; (first | omega | assumption | decide | (focus (simp; done)) | (focus (simp; omega))); (first | omega | assumption | decide | (focus (simp; done)) | (focus (simp; omega))); rfl; rfl; rfl)
      (apply dst (u := .int .u32 _) rfl rfl rfl; (first | ((simp (disch := omega) only [↓app0, ↓appC, ↓updS, ↓updN, ↓hpS, ↓hpN]) <;> first | rfl | assumption) | assumption | rfl); exact mapGet uV 0 (by omega); rfl; rfl; rfl; rfl; (exact Nat.le_of_ble_eq_true rfl); rfl; rfl; rfl)
      refine dNilR 33 [3, 1, 0, 0, 0, 0, 0, 0, 0, 0, 0, 0, 1, 1, 0, 0, 0, 0, 0, 0, 0, 0, 0, 0, 0, 0, 1, 1, 0, 0, 0, 0, 0] [] rfl rfl (by decide +kernel) trivial ?_
      refine qBlock ?_
      refine qSeq ?_
      refine wRegion ?_
      refine rmI rfl rfl rfl rfl rfl ?_
      refine raddF rfl rfl rfl ?_ ?_ rfl rfl rfl ?_
      · (first | omega | assumption | decide | (focus (simp; done)) | (focus (simp; omega)))
      · (first | omega | assumption | decide | (focus (simp; done)) | (focus (simp; omega)))
      refine raI rfl rfl rfl rfl rfl ?_
      refine rNil ?_
      refine qLoop ?_
      exact wlH (ih (j + 1) (by omega) (by omega)) (by (repeat first | exact LE.nil _ | refine LE.unk _ _ ?_ | refine LE.eq _ _ _ rfl ?_)) (by
        refine lessApp (n := n) hz (fun jx hj => ?_) (fun jx hl hn => ?_)
        · simp only [List.map_cons, List.map_nil, List.mem_cons, List.not_mem_nil, or_false] at hj
          rcases hj with rfl <;> (simp (disch := omega) only [↓app0, ↓appC, ↓updS, ↓updN, ↓hpS, ↓hpN]) <;> first | rfl | assumption | (refine congrArg (fun z => some (Blk.mk z 1 146)) ?_; rw [W1_succ, List.map_set]; (try simp only [Nat.zero_add, Nat.mul_one, Int.toNat_natCast]); rfl; done)
        · simp only [List.map_cons, List.map_nil, List.mem_cons, List.not_mem_nil, or_false, not_or] at hn
          (simp (disch := omega) only [↓app0, ↓appC, ↓updS, ↓updN, ↓hpS, ↓hpN])) (Nat.le_refl _)
    · refine rNil ?_
      refine qSeq ?_
      refine wF rfl ?_
      refine wExit ?_
      refine qSeqX ?_
      refine qLoopX ?_
      refine qBlockX ?_
      refine qSeq ?_
      refine wSeq ?_
      refine wRegion ?_
      refine rbs (es := []) rfl rfl rfl rfl (Nat.succ_ne_zero _) (Nat.le_of_ble_eq_true rfl) rfl rfl rfl rfl rfl ?_
      refine rmV rfl rfl rfl rfl rfl ?_
      (apply rap (s' := 4) (es := q.L.map uV) rfl rfl; (first | ((simp (disch := omega) only [↓app0, ↓appC, ↓updS, ↓updN, ↓hpS, ↓hpN]) <;> first | rfl | assumption) | assumption | rfl); rfl; rfl; rfl; rfl; rfl; exact (Nat.succ_ne_zero _); (apply srcView rfl; (first | ((simp (disch := omega) only [↓app0, ↓appC, ↓updS, ↓updN, ↓hpS, ↓hpN]) <;> first | rfl | assumption) | assumption | rfl); exact Nat.le_refl _; rfl); (intro c hc; obtain ⟨x, _, rfl⟩ := List.mem_map.1 hc; rfl); exact Nat.le_of_ble_eq_true rfl; exact Nat.le_of_ble_eq_true rfl; rfl; rfl; rfl)
      refine raV rfl rfl rfl rfl rfl ?_
      refine rNil ?_
      refine qSeq ?_
      refine wSeq ?_
      refine wSeq ?_
      refine wRegion ?_
      refine raI rfl rfl rfl rfl rfl ?_
      refine rNil ?_
      refine qSeq ?_
      refine wBlock ?_
      refine wLoop ?_
      refine loopGo (fun (a : Nat × Nat × Nat) => [.view hb 0 8, .unk, .sl fr nn (roundW.map uT), .unk, .unk, .unk, .view n 0 64, .unk, .unk, .unk, .unk, .view a.2.1 0 8, .int .i64 a.1]) (fun (a : Nat × Nat × Nat) => app [(n, some ⟨(sched ((F.drop off).take 64)).map uV, 1, 146⟩), (a.2.1, some ⟨(rnds (sched ((F.drop off).take 64)) q a.1).L.map uV, 1, 146⟩)] h) (fun (a : Nat × Nat × Nat) => a.2.2) (fun (a : Nat × Nat × Nat) => a.1 ≤ 64 ∧ n < a.2.1 ∧ a.2.1 < a.2.2 ∧ a.2.2 = n + 3 + a.1) (fun (a : Nat × Nat × Nat) => 64 - a.1) (0, n + 2, n + 3) ?_ ?_ ?_ ?_ ?_
      · exact ⟨Nat.zero_le _, by dsimp only; omega, by dsimp only; omega, rfl⟩
      · (repeat first | exact LE.nil _ | refine LE.unk _ _ ?_ | refine LE.eq _ _ _ rfl ?_)
      · dsimp only
        refine lessApp (n := n) hz (fun jx hj => ?_) (fun jx hl hn => ?_)
        · simp only [List.map_cons, List.map_nil, List.mem_cons, List.not_mem_nil, or_false] at hj
          rcases hj with rfl | rfl <;> (simp (disch := omega) only [↓app0, ↓appC, ↓updS, ↓updN, ↓hpS, ↓hpN]) <;> first | rfl | assumption | ((refine congrArg (fun z => some (Blk.mk z 1 146)) ?_; unfold sched; rw [show (48 : Nat) = j by omega]; done)) | ((refine congrArg (fun z => some (Blk.mk z 1 146)) ?_; rw [rnds_zero]; rfl; done))
        · simp only [List.map_cons, List.map_nil, List.mem_cons, List.not_mem_nil, or_false, not_or] at hn
          (simp (disch := omega) only [↓app0, ↓appC, ↓updS, ↓updN, ↓hpS, ↓hpN])
      · exact Nat.le_refl _
      intro ⟨i2, vb, m⟩ hI ih
      dsimp only at hI ⊢
      have hL2 : (sched ((F.drop off).take 64)).length = 64 := W1_length (W0 ((F.drop off).take 64) 16) (W0_length ((F.drop off).take 64) 16) 48
      generalize hr : rnds (sched ((F.drop off).take 64)) q i2 = r
      refine lStep ?_
      refine wSeq ?_
      refine wSeq ?_
      refine wRegion ?_
      refine rmI rfl rfl rfl rfl rfl ?_
      refine rlt rfl rfl rfl rfl rfl rfl ?_ ?_ <;> intro h13_1
      · refine rNil ?_
        refine qSeq ?_
        refine wT rfl ?_
        refine wSkip ?_
        refine qSeq ?_
        refine wSeq ?_
        refine wBlock ?_
        refine wSeq ?_
        refine wRegion ?_
        refine rmV rfl rfl rfl rfl rfl ?_
        (apply rixv rfl rfl rfl rfl; (first | ((simp (disch := omega) only [↓app0, ↓appC, ↓updS, ↓updN, ↓hpS, ↓hpN]) <;> first | rfl | assumption) | assumption | rfl); rfl; (first | omega | assumption | decide | (focus (simp; done)) | (focus (simp; omega))); (first | omega | assumption | decide | (focus (simp; done)) | (focus (simp; omega))); rfl; rfl; rfl)
        (apply rlc (v := .int _ _) rfl rfl; (first | ((simp (disch := omega) only [↓app0, ↓appC, ↓updS, ↓updN, ↓hpS, ↓hpN]) <;> first | rfl | assumption) | assumption | rfl); rfl; rfl; rfl; rfl; rfl; rfl)
        refine raI rfl rfl rfl rfl rfl ?_
        refine rNil ?_
        refine qSeq ?_
        refine wSeq ?_
        refine wRegion ?_
        refine rmV rfl rfl rfl rfl rfl ?_
        (apply rixv rfl rfl rfl rfl; (first | ((simp (disch := omega) only [↓app0, ↓appC, ↓updS, ↓updN, ↓hpS, ↓hpN]) <;> first | rfl | assumption) | assumption | rfl); rfl; (first | omega | assumption | decide | (focus (simp; done)) | (focus (simp; omega))); (first | omega | assumption | decide | (focus (simp; done)) | (focus (simp; omega))); rfl; rfl; rfl)
        (apply rlc (v := .int _ _) rfl rfl; (first | ((simp (disch := omega) only [↓app0, ↓appC, ↓updS, ↓updN, ↓hpS, ↓hpN]) <;> first | rfl | assumption) | assumption | rfl); rfl; rfl; rfl; rfl; rfl; rfl)
        refine raI rfl rfl rfl rfl rfl ?_
        refine rNil ?_
        refine qSeq ?_
        refine wSeq ?_
        refine wDraw [0, 1, 3, 0, 8, 0, 56, 120, 0, 376, 1016, 2047, 0, 0, 8192, 24576, 61440, 0, 131072, 0, 524288, 1572864, 4063232, 8384512, 16777215, 0, 0, 100663296, 234881024, 536870911, 0, 0, 3221225472, 7516192768, 17179869183, 34359738367] rfl (by decide +kernel) ?_
        refine dmV rfl rfl rfl rfl rfl ?_
        (apply dixv rfl rfl rfl rfl; (first | ((simp (disch := omega) only [↓app0, ↓appC, ↓updS, ↓updN, ↓hpS, ↓hpN]) <;> first | rfl | assumption) | assumption | rfl); rfl; (first | omega | assumption | decide | (focus (simp; done)) | (focus (simp; omega))); (first | omega | assumption | decide | (focus (simp; done)) | (focus (simp; omega))); rfl; rfl; rfl)
        (apply dlc (v := .int _ _) rfl rfl; (first | ((simp (disch := omega) only [↓app0, ↓appC, ↓updS, ↓updN, ↓hpS, ↓hpN]) <;> first | rfl | assumption) | assumption | rfl); rfl; rfl; rfl; rfl; rfl; rfl)
        refine dmI rfl rfl rfl rfl rfl ?_
        refine dcl (e127 _ _ (by decide)) rfl rfl rfl rfl rfl rfl ?_
        refine dmI rfl rfl rfl rfl rfl ?_
        refine dcl (e127 _ _ (by decide)) rfl rfl rfl rfl rfl rfl ?_
        refine dxor rfl rfl rfl rfl rfl rfl ?_
        refine dmI rfl rfl rfl rfl rfl ?_
        refine dcl (e127 _ _ (by decide)) rfl rfl rfl rfl rfl rfl ?_
        refine dxor rfl rfl rfl rfl rfl rfl ?_
        refine dadd rfl rfl rfl rfl rfl rfl ?_
        refine dmI rfl rfl rfl rfl rfl ?_
        refine dmV rfl rfl rfl rfl rfl ?_
        (apply dixv rfl rfl rfl rfl; (first | ((simp (disch := omega) only [↓app0, ↓appC, ↓updS, ↓updN, ↓hpS, ↓hpN]) <;> first | rfl | assumption) | assumption | rfl); rfl; (first | omega | assumption | decide | (focus (simp; done)) | (focus (simp; omega))); (first | omega | assumption | decide | (focus (simp; done)) | (focus (simp; omega))); rfl; rfl; rfl)
        (apply dlc (v := .int _ _) rfl rfl; (first | ((simp (disch := omega) only [↓app0, ↓appC, ↓updS, ↓updN, ↓hpS, ↓hpN]) <;> first | rfl | assumption) | assumption | rfl); rfl; rfl; rfl; rfl; rfl; rfl)
        refine dand rfl rfl rfl rfl rfl rfl ?_
        refine dmI rfl rfl rfl rfl rfl ?_
        refine dcpl rfl rfl rfl rfl rfl ?_
        refine dmV rfl rfl rfl rfl rfl ?_
        (apply dixv rfl rfl rfl rfl; (first | ((simp (disch := omega) only [↓app0, ↓appC, ↓updS, ↓updN, ↓hpS, ↓hpN]) <;> first | rfl | assumption) | assumption | rfl); rfl; (first | omega | assumption | decide | (focus (simp; done)) | (focus (simp; omega))); (first | omega | assumption | decide | (focus (simp; done)) | (focus (simp; omega))); rfl; rfl; rfl)
        (apply dlc (v := .int _ _) rfl rfl; (first | ((simp (disch := omega) only [↓app0, ↓appC, ↓updS, ↓updN, ↓hpS, ↓hpN]) <;> first | rfl | assumption) | assumption | rfl); rfl; rfl; rfl; rfl; rfl; rfl)
        refine dand rfl rfl rfl rfl rfl rfl ?_
        refine dxor rfl rfl rfl rfl rfl rfl ?_
        refine dadd rfl rfl rfl rfl rfl rfl ?_
        refine dmL rfl rfl rfl rfl rfl ?_
        refine dmI rfl rfl rfl rfl rfl ?_
        (apply dixl rfl rfl rfl rfl; (first | omega | assumption | decide | (focus (simp; done)) | (focus (simp; omega))); (first | rfl | assumption | (exact mapGet uT 0 (by show _ < 64; omega))); rfl; rfl; rfl; rfl)
        refine dlic (v := .int _ _) rfl rfl rfl rfl rfl rfl rfl rfl ?_
        refine dadd rfl rfl rfl rfl rfl rfl ?_
        refine dmV rfl rfl rfl rfl rfl ?_
        refine dmI rfl rfl rfl rfl rfl ?_
        (apply dixv rfl rfl rfl rfl; (first | ((simp (disch := omega) only [↓app0, ↓appC, ↓updS, ↓updN, ↓hpS, ↓hpN]) <;> first | rfl | assumption) | assumption | rfl); rfl; (first | omega | assumption | decide | (focus (simp; done)) | (focus (simp; omega))); (first | omega | assumption | decide | (focus (simp; done)) | (focus (simp; omega))); rfl; rfl; rfl)
        (apply dlc (v := .int .u32 _) rfl rfl; (first | ((simp (disch := omega) only [↓app0, ↓appC, ↓updS, ↓updN, ↓hpS, ↓hpN]) <;> first | rfl | assumption) | assumption | rfl); exact mapGet uV 0 (by omega); rfl; rfl; rfl; rfl; rfl)
        refine dadd rfl rfl rfl rfl rfl rfl ?_
        refine daI rfl rfl rfl rfl rfl ?_
        refine dNilR 36 [0, 0, 1, 1, 0, 0, 0, 0, 0, 0, 0, 0, 0, 0, 1, 1, 0, 0, 0, 0, 1, 1, 0, 0, 0, 0, 0, 0, 0, 0, 0, 0, 0, 1, 1, 0] [] rfl rfl (by decide +kernel) trivial ?_
        refine qSeq ?_
        refine wSeq ?_
        refine wDraw [0, 1, 0, 7, 15, 0, 47, 127, 0, 0, 512, 1536, 3840, 0, 0, 16384, 49152, 122880, 261888, 0, 524288, 1572864, 0, 4194304, 12582912, 33030144, 67108608, 134217727, 268435455] rfl (by decide +kernel) ?_
        refine dmI rfl rfl rfl rfl rfl ?_
        refine dcl (e127 _ _ (by decide)) rfl rfl rfl rfl rfl rfl ?_
        refine dmI rfl rfl rfl rfl rfl ?_
        refine dcl (e127 _ _ (by decide)) rfl rfl rfl rfl rfl rfl ?_
        refine dxor rfl rfl rfl rfl rfl rfl ?_
        refine dmI rfl rfl rfl rfl rfl ?_
        refine dcl (e127 _ _ (by decide)) rfl rfl rfl rfl rfl rfl ?_
        refine dxor rfl rfl rfl rfl rfl rfl ?_
        refine dmI rfl rfl rfl rfl rfl ?_
        refine dmV rfl rfl rfl rfl rfl ?_
        (apply dixv rfl rfl rfl rfl; (first | ((simp (disch := omega) only [↓app0, ↓appC, ↓updS, ↓updN, ↓hpS, ↓hpN]) <;> first | rfl | assumption) | assumption | rfl); rfl; (first | omega | assumption | decide | (focus (simp; done)) | (focus (simp; omega))); (first | omega | assumption | decide | (focus (simp; done)) | (focus (simp; omega))); rfl; rfl; rfl)
        (apply dlc (v := .int _ _) rfl rfl; (first | ((simp (disch := omega) only [↓app0, ↓appC, ↓updS, ↓updN, ↓hpS, ↓hpN]) <;> first | rfl | assumption) | assumption | rfl); rfl; rfl; rfl; rfl; rfl; rfl)
        refine dand rfl rfl rfl rfl rfl rfl ?_
        refine dmI rfl rfl rfl rfl rfl ?_
        refine dmV rfl rfl rfl rfl rfl ?_
        (apply dixv rfl rfl rfl rfl; (first | ((simp (disch := omega) only [↓app0, ↓appC, ↓updS, ↓updN, ↓hpS, ↓hpN]) <;> first | rfl | assumption) | assumption | rfl); rfl; (first | omega | assumption | decide | (focus (simp; done)) | (focus (simp; omega))); (first | omega | assumption | decide | (focus (simp; done)) | (focus (simp; omega))); rfl; rfl; rfl)
        (apply dlc (v := .int _ _) rfl rfl; (first | ((simp (disch := omega) only [↓app0, ↓appC, ↓updS, ↓updN, ↓hpS, ↓hpN]) <;> first | rfl | assumption) | assumption | rfl); rfl; rfl; rfl; rfl; rfl; rfl)
        refine dand rfl rfl rfl rfl rfl rfl ?_
        refine dxor rfl rfl rfl rfl rfl rfl ?_
        refine dmV rfl rfl rfl rfl rfl ?_
        (apply dixv rfl rfl rfl rfl; (first | ((simp (disch := omega) only [↓app0, ↓appC, ↓updS, ↓updN, ↓hpS, ↓hpN]) <;> first | rfl | assumption) | assumption | rfl); rfl; (first | omega | assumption | decide | (focus (simp; done)) | (focus (simp; omega))); (first | omega | assumption | decide | (focus (simp; done)) | (focus (simp; omega))); rfl; rfl; rfl)
        (apply dlc (v := .int _ _) rfl rfl; (first | ((simp (disch := omega) only [↓app0, ↓appC, ↓updS, ↓updN, ↓hpS, ↓hpN]) <;> first | rfl | assumption) | assumption | rfl); rfl; rfl; rfl; rfl; rfl; rfl)
        refine dmV rfl rfl rfl rfl rfl ?_
        (apply dixv rfl rfl rfl rfl; (first | ((simp (disch := omega) only [↓app0, ↓appC, ↓updS, ↓updN, ↓hpS, ↓hpN]) <;> first | rfl | assumption) | assumption | rfl); rfl; (first | omega | assumption | decide | (focus (simp; done)) | (focus (simp; omega))); (first | omega | assumption | decide | (focus (simp; done)) | (focus (simp; omega))); rfl; rfl; rfl)
        (apply dlc (v := .int _ _) rfl rfl; (first | ((simp (disch := omega) only [↓app0, ↓appC, ↓updS, ↓updN, ↓hpS, ↓hpN]) <;> first | rfl | assumption) | assumption | rfl); rfl; rfl; rfl; rfl; rfl; rfl)
        refine dand rfl rfl rfl rfl rfl rfl ?_
        refine dxor rfl rfl rfl rfl rfl rfl ?_
        refine dadd rfl rfl rfl rfl rfl rfl ?_
        refine daI rfl rfl rfl rfl rfl ?_
        refine dNilR 29 [0, 0, 0, 0, 1, 1, 0, 1, 1, 0, 0, 0, 1, 1, 0, 0, 0, 1, 1, 0, 0, 0, 0, 0, 0, 0, 0, 0, 0] [] rfl rfl (by decide +kernel) trivial ?_
        refine qSeq ?_
        refine wDraw [0, 0, 3, 0, 8, 24, 0, 64, 192, 0, 512, 1536, 0, 4096, 12288, 0, 61440, 0, 131072, 393216, 0, 1048576, 3145728, 0, 8388608, 25165824, 67108863, 134217727] rfl (by decide +kernel) ?_
        refine dmI rfl rfl rfl rfl rfl ?_
        refine dmI rfl rfl rfl rfl rfl ?_
        refine dadd rfl rfl rfl rfl rfl rfl ?_
        refine dmV rfl rfl rfl rfl rfl ?_
        (apply dixv rfl rfl rfl rfl; (first | ((simp (disch := omega) only [↓app0, ↓appC, ↓updS, ↓updN, ↓hpS, ↓hpN]) <;> first | rfl | assumption) | assumption | rfl); rfl; (first | omega | assumption | decide | (focus (simp; done)) | (focus (simp; omega))); (first | omega | assumption | decide | (focus (simp; done)) | (focus (simp; omega))); rfl; rfl; rfl)
        (apply dlc (v := .int _ _) rfl rfl; (first | ((simp (disch := omega) only [↓app0, ↓appC, ↓updS, ↓updN, ↓hpS, ↓hpN]) <;> first | rfl | assumption) | assumption | rfl); rfl; rfl; rfl; rfl; rfl; rfl)
        refine dmV rfl rfl rfl rfl rfl ?_
        (apply dixv rfl rfl rfl rfl; (first | ((simp (disch := omega) only [↓app0, ↓appC, ↓updS, ↓updN, ↓hpS, ↓hpN]) <;> first | rfl | assumption) | assumption | rfl); rfl; (first | omega | assumption | decide | (focus (simp; done)) | (focus (simp; omega))); (first | omega | assumption | decide | (focus (simp; done)) | (focus (simp; omega))); rfl; rfl; rfl)
        (apply dlc (v := .int _ _) rfl rfl; (first | ((simp (disch := omega) only [↓app0, ↓appC, ↓updS, ↓updN, ↓hpS, ↓hpN]) <;> first | rfl | assumption) | assumption | rfl); rfl; rfl; rfl; rfl; rfl; rfl)
        refine dmV rfl rfl rfl rfl rfl ?_
        (apply dixv rfl rfl rfl rfl; (first | ((simp (disch := omega) only [↓app0, ↓appC, ↓updS, ↓updN, ↓hpS, ↓hpN]) <;> first | rfl | assumption) | assumption | rfl); rfl; (first | omega | assumption | decide | (focus (simp; done)) | (focus (simp; omega))); (first | omega | assumption | decide | (focus (simp; done)) | (focus (simp; omega))); rfl; rfl; rfl)
        (apply dlc (v := .int _ _) rfl rfl; (first | ((simp (disch := omega) only [↓app0, ↓appC, ↓updS, ↓updN, ↓hpS, ↓hpN]) <;> first | rfl | assumption) | assumption | rfl); rfl; rfl; rfl; rfl; rfl; rfl)
        refine dmV rfl rfl rfl rfl rfl ?_
        (apply dixv rfl rfl rfl rfl; (first | ((simp (disch := omega) only [↓app0, ↓appC, ↓updS, ↓updN, ↓hpS, ↓hpN]) <;> first | rfl | assumption) | assumption | rfl); rfl; (first | omega | assumption | decide | (focus (simp; done)) | (focus (simp; omega))); (first | omega | assumption | decide | (focus (simp; done)) | (focus (simp; omega))); rfl; rfl; rfl)
        (apply dlc (v := .int _ _) rfl rfl; (first | ((simp (disch := omega) only [↓app0, ↓appC, ↓updS, ↓updN, ↓hpS, ↓hpN]) <;> first | rfl | assumption) | assumption | rfl); rfl; rfl; rfl; rfl; rfl; rfl)
        refine dmI rfl rfl rfl rfl rfl ?_
        refine dadd rfl rfl rfl rfl rfl rfl ?_
        refine dmV rfl rfl rfl rfl rfl ?_
        (apply dixv rfl rfl rfl rfl; (first | ((simp (disch := omega) only [↓app0, ↓appC, ↓updS, ↓updN, ↓hpS, ↓hpN]) <;> first | rfl | assumption) | assumption | rfl); rfl; (first | omega | assumption | decide | (focus (simp; done)) | (focus (simp; omega))); (first | omega | assumption | decide | (focus (simp; done)) | (focus (simp; omega))); rfl; rfl; rfl)
        (apply dlc (v := .int _ _) rfl rfl; (first | ((simp (disch := omega) only [↓app0, ↓appC, ↓updS, ↓updN, ↓hpS, ↓hpN]) <;> first | rfl | assumption) | assumption | rfl); rfl; rfl; rfl; rfl; rfl; rfl)
        refine dmV rfl rfl rfl rfl rfl ?_
        (apply dixv rfl rfl rfl rfl; (first | ((simp (disch := omega) only [↓app0, ↓appC, ↓updS, ↓updN, ↓hpS, ↓hpN]) <;> first | rfl | assumption) | assumption | rfl); rfl; (first | omega | assumption | decide | (focus (simp; done)) | (focus (simp; omega))); (first | omega | assumption | decide | (focus (simp; done)) | (focus (simp; omega))); rfl; rfl; rfl)
        (apply dlc (v := .int _ _) rfl rfl; (first | ((simp (disch := omega) only [↓app0, ↓appC, ↓updS, ↓updN, ↓hpS, ↓hpN]) <;> first | rfl | assumption) | assumption | rfl); rfl; rfl; rfl; rfl; rfl; rfl)
        refine dmV rfl rfl rfl rfl rfl ?_
        (apply dixv rfl rfl rfl rfl; (first | ((simp (disch := omega) only [↓app0, ↓appC, ↓updS, ↓updN, ↓hpS, ↓hpN]) <;> first | rfl | assumption) | assumption | rfl); rfl; (first | omega | assumption | decide | (focus (simp; done)) | (focus (simp; omega))); (first | omega | assumption | decide | (focus (simp; done)) | (focus (simp; omega))); rfl; rfl; rfl)
        (apply dlc (v := .int _ _) rfl rfl; (first | ((simp (disch := omega) only [↓app0, ↓appC, ↓updS, ↓updN, ↓hpS, ↓hpN]) <;> first | rfl | assumption) | assumption | rfl); rfl; rfl; rfl; rfl; rfl; rfl)
        refine dbs (es := [[.int _ _], [.int _ _], [.int _ _], [.int _ _], [.int _ _], [.int _ _], [.int _ _], [.int _ _]]) rfl rfl rfl rfl (Nat.succ_ne_zero _) (Nat.le_of_ble_eq_true rfl) rfl rfl rfl rfl rfl ?_
        refine daV rfl rfl rfl rfl rfl ?_
        refine dNilR 28 [0, 3, 1, 1, 0, 1, 1, 0, 1, 1, 0, 0, 0, 1, 1, 0, 1, 1, 0, 1, 1, 0, 1, 1, 0, 0, 0, 0] [] rfl rfl (by decide +kernel) trivial ?_
        refine qBlock ?_
        refine qSeq ?_
        refine wRegion ?_
        refine rmI rfl rfl rfl rfl rfl ?_
        refine raddF rfl rfl rfl ?_ ?_ rfl rfl rfl ?_
        · (first | omega | assumption | decide | (focus (simp; done)) | (focus (simp; omega)))
        · (first | omega | assumption | decide | (focus (simp; done)) | (focus (simp; omega)))
        refine raI rfl rfl rfl rfl rfl ?_
        refine rNil ?_
        refine qLoop ?_
        exact wlH (ih (i2 + 1, m, m + 1) ⟨by dsimp only; omega, by dsimp only; omega, by dsimp only; omega, by dsimp only; omega⟩ (by dsimp only; omega)) (by (repeat first | exact LE.nil _ | refine LE.unk _ _ ?_ | refine LE.eq _ _ _ rfl ?_)) (by
          dsimp only
          refine lessApp (n := n) hz (fun jx hj => ?_) (fun jx hl hn => ?_)
          · simp only [List.map_cons, List.map_nil, List.mem_cons, List.not_mem_nil, or_false] at hj
            rcases hj with rfl | rfl <;> (simp (disch := omega) only [↓app0, ↓appC, ↓updS, ↓updN, ↓hpS, ↓hpN]) <;> first | rfl | assumption | ((refine congrArg (fun z => some (Blk.mk z 1 146)) ?_; rw [rnds_succ, hr, rnd_x]; (try simp only [Nat.zero_add, Nat.mul_one, Int.toNat_natCast]); rfl; done))
          · simp only [List.map_cons, List.map_nil, List.mem_cons, List.not_mem_nil, or_false, not_or] at hn
            (simp (disch := omega) only [↓app0, ↓appC, ↓updS, ↓updN, ↓hpS, ↓hpN])) (Nat.le_refl _)
      · refine rNil ?_
        refine qSeq ?_
        refine wF rfl ?_
        refine wExit ?_
        refine qSeqX ?_
        refine qLoopX ?_
        refine qBlockX ?_
        refine qSeq ?_
        refine wSeq ?_
        refine wRegion ?_
        refine raI rfl rfl rfl rfl rfl ?_
        refine rNil ?_
        refine qSeq ?_
        refine wBlock ?_
        refine wLoop ?_
        refine loopGo (fun (i3 : Nat) => [.view hb 0 8, .unk, .unk, .unk, .unk, .unk, .unk, .unk, .unk, .unk, .unk, .view vb 0 8, .unk, .unk, .unk, .unk, .unk, .int .i64 i3]) (fun (i3 : Nat) => app [(hb, some ⟨(addW q (rnds (sched ((F.drop off).take 64)) q 64) i3).map uV, 1, 146⟩), (vb, some ⟨(rnds (sched ((F.drop off).take 64)) q 64).L.map uV, 1, 146⟩)] h) (fun (i3 : Nat) => m) (fun (i3 : Nat) => i3 ≤ 8) (fun (i3 : Nat) => 8 - i3) 0 ?_ ?_ ?_ ?_ ?_
        · exact Nat.zero_le _
        · (repeat first | exact LE.nil _ | refine LE.unk _ _ ?_ | refine LE.eq _ _ _ rfl ?_)
        · refine lessApp (n := n) hz (fun jx hj => ?_) (fun jx hl hn => ?_)
          · simp only [List.map_cons, List.map_nil, List.mem_cons, List.not_mem_nil, or_false] at hj
            rcases hj with rfl | rfl <;> (simp (disch := omega) only [↓app0, ↓appC, ↓updS, ↓updN, ↓hpS, ↓hpN]) <;> first | rfl | assumption | exact k1.trans (by rw [addW_zero]) | ((refine congrArg (fun z => some (Blk.mk z 1 146)) ?_; rw [← hr, show i2 = 64 by omega]; done))
          · simp only [List.map_cons, List.map_nil, List.mem_cons, List.not_mem_nil, or_false, not_or] at hn
            (simp (disch := omega) only [↓app0, ↓appC, ↓updS, ↓updN, ↓hpS, ↓hpN])
        · exact Nat.le_refl _
        intro i3 hI ih
        have hL3 := addW_length q (rnds (sched ((F.drop off).take 64)) q 64) i3
        have hL4 : (rnds (sched ((F.drop off).take 64)) q 64).L.length = 8 := rfl
        refine lStep ?_
        refine wSeq ?_
        refine wSeq ?_
        refine wRegion ?_
        refine rmI rfl rfl rfl rfl rfl ?_
        refine rlt rfl rfl rfl rfl rfl rfl ?_ ?_ <;> intro h21_1
        · refine rNil ?_
          refine qSeq ?_
          refine wT rfl ?_
          refine wSkip ?_
          refine qSeq ?_
          refine wSeq ?_
          refine wBlock ?_
          refine wDraw [0, 0, 3, 7, 0, 0, 48, 112, 255, 511, 1023] rfl (by decide +kernel) ?_
          refine dmV rfl rfl rfl rfl rfl ?_
          refine dmI rfl rfl rfl rfl rfl ?_
          (apply dixv rfl rfl rfl rfl; (first | ((simp (disch := omega) only [↓app0, ↓appC, ↓updS, ↓updN, ↓hpS, ↓hpN]) <;> first | rfl | assumption) | assumption | rfl); rfl; (first | omega | assumption | decide | (focus (simp; done)) | (focus (simp; omega))); (first | omega | assumption | decide | (focus (simp; done)) | (focus (simp; omega))); rfl; rfl; rfl)
          (apply dlc (v := .int .u32 _) rfl rfl; (first | ((simp (disch := omega) only [↓app0, ↓appC, ↓updS, ↓updN, ↓hpS, ↓hpN]) <;> first | rfl | assumption) | assumption | rfl); exact mapGet uV 0 (by omega); rfl; rfl; rfl; rfl; rfl)
          refine dmV rfl rfl rfl rfl rfl ?_
          refine dmI rfl rfl rfl rfl rfl ?_
          (apply dixv rfl rfl rfl rfl; (first | ((simp (disch := omega) only [↓app0, ↓appC, ↓updS, ↓updN, ↓hpS, ↓hpN]) <;> first | rfl | assumption) | assumption | rfl); rfl; (first | omega | assumption | decide | (focus (simp; done)) | (focus (simp; omega))); (first | omega | assumption | decide | (focus (simp; done)) | (focus (simp; omega))); rfl; rfl; rfl)
          (apply dlc (v := .int .u32 _) rfl rfl; (first | ((simp (disch := omega) only [↓app0, ↓appC, ↓updS, ↓updN, ↓hpS, ↓hpN]) <;> first | rfl | assumption) | assumption | rfl); exact mapGet uV 0 (by omega); rfl; rfl; rfl; rfl; rfl)
          refine dadd rfl rfl rfl rfl rfl rfl ?_
          (apply dixv rfl rfl rfl rfl; (first | ((simp (disch := omega) only [↓app0, ↓appC, ↓updS, ↓updN, ↓hpS, ↓hpN]) <;> first | rfl | assumption) | assumption | rfl); rfl; (first | omega | assumption | decide | (focus (simp; done)) | (focus (simp; omega))); (first | omega | assumption | decide | (focus (simp; done)) | (focus (simp; omega))); rfl; rfl; rfl)
          (apply dst (u := .int .u32 _) rfl rfl rfl; (first | ((simp (disch := omega) only [↓app0, ↓appC, ↓updS, ↓updN, ↓hpS, ↓hpN]) <;> first | rfl | assumption) | assumption | rfl); exact mapGet uV 0 (by omega); rfl; rfl; rfl; rfl; (exact Nat.le_of_ble_eq_true rfl); rfl; rfl; rfl)
          refine dNilR 11 [3, 1, 0, 1, 1, 0, 0, 1, 1, 0, 0] [] rfl rfl (by decide +kernel) trivial ?_
          refine qBlock ?_
          refine qSeq ?_
          refine wRegion ?_
          refine rmI rfl rfl rfl rfl rfl ?_
          refine raddF rfl rfl rfl ?_ ?_ rfl rfl rfl ?_
          · (first | omega | assumption | decide | (focus (simp; done)) | (focus (simp; omega)))
          · (first | omega | assumption | decide | (focus (simp; done)) | (focus (simp; omega)))
          refine raI rfl rfl rfl rfl rfl ?_
          refine rNil ?_
          refine qLoop ?_
          exact wlH (ih (i3 + 1) (by omega) (by omega)) (by (repeat first | exact LE.nil _ | refine LE.unk _ _ ?_ | refine LE.eq _ _ _ rfl ?_)) (by
            refine lessApp (n := n) hz (fun jx hj => ?_) (fun jx hl hn => ?_)
            · simp only [List.map_cons, List.map_nil, List.mem_cons, List.not_mem_nil, or_false] at hj
              rcases hj with rfl | rfl <;> (simp (disch := omega) only [↓app0, ↓appC, ↓updS, ↓updN, ↓hpS, ↓hpN]) <;> first | rfl | assumption | ((refine congrArg (fun z => some (Blk.mk z 1 146)) ?_; rw [addW_succ, List.map_set]; (try simp only [Nat.zero_add, Nat.mul_one, Int.toNat_natCast]); rfl; done))
            · simp only [List.map_cons, List.map_nil, List.mem_cons, List.not_mem_nil, or_false, not_or] at hn
              (simp (disch := omega) only [↓app0, ↓appC, ↓updS, ↓updN, ↓hpS, ↓hpN])) (Nat.le_refl _)
        · refine rNil ?_
          refine qSeq ?_
          refine wF rfl ?_
          refine wExit ?_
          refine qSeqX ?_
          refine qLoopX ?_
          refine qBlockX ?_
          exact finO rfl rfl (leWr (by
            intro j hj
            simp only [List.map_cons, List.map_nil, List.mem_cons, List.not_mem_nil, or_false] at hj
            rcases hj with rfl <;> (simp (disch := omega) only [↓app0, ↓appC, ↓updS, ↓updN, ↓hpS, ↓hpN]) <;> first | rfl | ((refine congrArg (fun z => some (Blk.mk z 1 146)) ?_; rw [show i3 = 8 by omega, addW_end]; rfl; done))) (fun j hj hn => by
            simp only [List.map_cons, List.map_nil, List.mem_cons, List.not_mem_nil, or_false, not_or] at hn
            simp (disch := omega) only [↓app0, ↓appC, ↓updS, ↓updN, ↓hpS, ↓hpN])) (by omega)
end Go.Proofs.YtcafccndgpopkaaDoor
