import Derived.Lib.AppendZerosOnto
import Derived.Lib.Overlaps
import Derived.Test.YtknnniaoboaghaaL6
namespace Go.Proofs.Ytknnniaoboaghaa
open Go.V
set_option linter.unusedVariables false
set_option linter.unusedSimpArgs false
set_option maxRecDepth 20000
set_option maxHeartbeats 4000000
theorem snapWsP {h : Heap} {ids : List Nat} {r : Bool} {id m o : Nat} {Pr : List (List V)} {L : List Wt} (hid : id ∈ ids) (hb : h id = some ⟨Pr ++ L.map wtV, 2, 123⟩) (ho : o = Pr.length) (hm : m = L.length) : Snap h ids r (.view id o m) (.sl true (L.map wtT)) := by
 subst hm ho
 have e : ((Pr ++ L.map wtV).drop Pr.length).take L.length = L.map wtV := by rw [List.drop_left, List.take_of_length_le (by simp)]
 refine .view id _ _ _ _ hid hb (by simp) (by simp) (fun i x y h1 h2 => ?_) (fun i j x y h1 h2 => ?_)
 ·dsimp only at h1
  rw [e] at h1
  by_cases hi : i < L.length
  ·rw [D8 wtV (0, 0) hi] at h1; rw [D8 wtT (0, 0) hi] at h2
   cases h1; cases h2; rfl
  ·rw [List.getElem?_eq_none (by simpa using Nat.not_lt.1 hi)] at h1; cases h1
 ·dsimp only at h1
  rw [e] at h1
  unfold get2 at h1 h2
  by_cases hi : i < L.length
  ·rw [D8 wtV (0, 0) hi] at h1; rw [D8 wtT (0, 0) hi] at h2
   match j with
   | 0 => cases h1; cases h2; exact .int _ _
   | 1 => cases h1; cases h2; exact .int _ _
   | j + 2 => exact absurd h1 nofun
  ·rw [List.getElem?_eq_none (by simpa using Nat.not_lt.1 hi)] at h1; exact absurd h1 nofun
theorem getMP {α : Type} (f : α → List V) (d : α) {Pr : List (List V)} {X : List α} {i : Nat} (h : i < X.length) : (Pr ++ X.map f)[Pr.length + i]? = some (f (X.getD i d)) := by
 rw [List.getElem?_append_right (by omega), Nat.add_sub_cancel_left]; exact D8 f d h
open Go.V
set_option linter.unusedVariables false
set_option linter.unusedSimpArgs false
set_option maxRecDepth 20000
set_option maxHeartbeats 4000000
def T0 : Tb := ⟨0, 0, [], []⟩
noncomputable def exA (t : Tb) (now : Int) : Tb × Int := if ¬ t.OK then (T0, 1) else if ¬ (0 ≤ now ∧ now ≤ 1000000000) then (T0, 4) else if t.nx > 999000 then (t, 13) else (exT t now, 0)
theorem o60n (tm nx now : Int) (Ss : V) {id : Nat} {h : Heap} {n : Nat} (hid : id < n) (hh : h id = some ⟨[[.int .i64 tm, .int .i64 nx, .nsl, Ss]], 4, 35⟩) : V.Open En 60 [.ptr id 0 0, .int .i64 now] h n (.tup []) [(id, some ⟨[[.int .i64 (max tm now), .int .i64 nx, .nsl, Ss]], 4, 35⟩)] n := by
 refine V.Open.of_wp Try.func60 rfl kb ?_
 refine A2 (A0 (D9 j5 (D9 j5 (F8 (v := .ptr _ _ _) j6 (C2 (off := 0) (s := 1) (r := false) j3 kz j3 ?_)))))
 (apply C6 (v := .int _ _) j2; exact Q0; rfl; exact j5)
 refine B5 j5 (rmax rfl j5 (F8 (v := .ptr _ _ _) j6 (C2 (off := 0) (s := 1) (r := false) j3 kz j3 ?_)))
 (apply D6 (u := .int _ _) j3; exact Q0; rfl; rfl; rfl; rfl; rfl; exact kb; rfl; exact j2)
 refine A3 (A1 (A2 (A0 (D9 j5 (F8 (v := .ptr _ _ _) j6 (C2 (off := 2) (s := 1) (r := false) j3 kz j3 ?_))))))
 (apply C6 (v := .nsl) j2; exact Q0; rfl; exact j5)
 refine G7 rfl rfl rfl j3 (B5 j5 (A3 (A1 (B4 (F0 (E8 (A2 (A0 ?_))))))))
 refine H9 j6 (fun h => absurd h ((by show ¬ ((0 : Int) < 0); decide))) ?_
 intro h2_0
 refine A3 (A1 (A2 (wF rfl (E5 (E6 (D2 (C5 ?_)))))))
 exact F2 rfl rfl (K9 (by
  intro jx hjx
  simp only [List.map_cons, List.map_nil, List.mem_cons, List.not_mem_nil, or_false] at hjx
  rcases hjx with rfl <;> (simp (disch := omega) only [↓appC, ↓updN, ↓updS, ↓app0]) <;> rfl) (fun jx hjx hn => by
  simp only [List.map_cons, List.map_nil, List.mem_cons, List.not_mem_nil, or_false, not_or] at hn
  (simp (disch := omega) only [↓appC, ↓updN, ↓updS, ↓app0]) <;> rfl)) (Nat.le_refl _)
theorem s59 (x : Int) : Pure En 59 [.one (.int .i64 x)] [.one (.bool (decide (0 ≤ x ∧ x ≤ 1000000000)))] := by
 refine Pure.of_wp Try.func59 rfl kb ?_
 refine A2 (A0 (C3 j5 (A3 (A1 (A2 (A0 (B5 j5 ?_)))))))
 refine F3 (AQ _ _ _) rfl j5 ?_ ?_ <;> intro h1_1
 ·refine C3 j5 (A3 (A1 (B1 ?_)))
  first | exact D3 rfl h1_1 | exact C4 rfl h1_1
 ·refine C3 j5 (A3 (A1 (B1 ?_)))
  first | exact D3 rfl h1_1 | exact C4 rfl h1_1
open Go.V
set_option linter.unusedVariables false
set_option linter.unusedSimpArgs false
set_option maxRecDepth 20000
set_option maxHeartbeats 4000000
open Go.V
set_option linter.unusedVariables false
set_option linter.unusedSimpArgs false
set_option maxRecDepth 20000
set_option maxHeartbeats 4000000
theorem wlG {E : Env} {sz : Nat} {k : Code} {t : Nat → V} {h : Heap} {n : Nat} {Q : Post} (w : ∀ g, g = h → WL E sz k t g n Q) : WL E sz k t h n Q := w h rfl
theorem lenWtR (r : List Wt) : ∀ c ∈ r.map wtV, c.length = 2 := fun c hc => by
 obtain ⟨a, _, rfl⟩ := List.mem_map.1 hc; rfl
theorem lenR (r : List Wt) : 0 + (r.map wtV).length = r.length := by simp
theorem s132 (a b : Int) (ha : 0 ≤ a ∧ a ≤ 1000000000) (hb : 0 ≤ b ∧ b ≤ 1000) : Pure En 132 [.one (.int .i64 a), .one (.int .i64 b)] [.one (.int .i64 (a + b))] := by
 refine Pure.of_wp Try.func132 rfl kb ?_
 refine A2 (A0 (D1 j5 (A3 (A1 (A2 (A0 (B5 j5 (rmax rfl j5 (D1 j5 (A3 (A1 (A2 ?_))))))))))))
 refine A0 (B5 j5 (rmax rfl j5 (D1 j5 (A3 (A1 (A2 (A2 (A0 (B5 j5 (B5 j5 (N6 j3 ?_ ?_ j3 ?_)))))))))))
 ·exact Z6
 ·exact Z6
 refine V9 j6 (fun h => absurd h (by omega)) ?_
 intro h3_3
 refine A3 (A1 (wF rfl (B2 (A1 (A2 (A0 (B5 j5 (B5 j5 (D0 j3 ?_ ?_ j3 ?_)))))))))
 ·exact Z6
 ·exact Z6
 refine D1 j5 (A3 (A1 (B1 ?_)))
 exact finE j2 (by rw [show max a 0 = a by omega, show max b 0 = b by omega])
theorem o124 (nm : ByteArray) (tk hd ex tm nx c le : Int) (W Ss : V) (hW : W.cell = true) (ht : 0 ≤ tm ∧ tm ≤ 1000000000) (hn : 0 ≤ nx ∧ nx ≤ 999999) (hle : 0 ≤ le ∧ le ≤ 1000) {id lb j len : Nat} {R : List (List V)} {h : Heap} {n : Nat} (hid : id < n) (hlb : lb < n) (hne : lb ≠ id) (hh : h id = some ⟨[[.int .i64 tm, .int .i64 nx, .view lb 0 len, Ss]], 4, 35⟩) (hjl : j < len) (hj : 0 + j < R.length) (k1 : h lb = some ⟨R, 5, 29⟩) (k2 : R[0 + j]? = some [.str nm, .int .i64 tk, .int .i64 hd, .int .i64 ex, W]) : V.Open En 124 [.ptr id 0 0, .int .i64 j, .int .i64 c, .int .i64 le] h n (.tup []) [(lb, some ⟨R.set (0 + j) [.str nm, .int .i64 nx, .int .i64 c, .int .i64 (tm + le), W], 5, 29⟩), (id, some ⟨[[.int .i64 tm, .int .i64 (nx + 1), .view lb 0 len, Ss]], 4, 35⟩)] n := by
 refine V.Open.of_wp Try.func124 rfl kb ?_
 refine A2 (A0 (D9 j5 (F8 (v := .ptr _ _ _) j6 (C2 (off := 2) (s := 1) (r := false) j3 kz j3 ?_))))
 (apply C6 (v := .view _ _ _) j2; exact Q0; exact Q9; exact j5)
 refine B5 j5 (B5 j5 ?_)
 (apply U0 j4; exact Q0; rfl; exact Q4; exact Q4; exact j3)
 refine C2 (off := 2) (s := 1) (r := false) j3 kz j3 ?_
 (apply D6 (u := .int _ _) j3; exact Q0; exact Q9; rfl; rfl; rfl; rfl; exact kb; rfl; exact j2)
 refine A3 (A1 (A2 (B9 [0, 1, 3, 7, 0, 0, 32, 96, 224, 511, 1023, 2047] rfl (by decide +kernel) ?_)))
 refine G9 j5 (H0 (v := .ptr _ _ _) j6 (C9 (off := 2) (s := 1) (r := false) j3 kz j3 ?_))
 (apply D5 (v := .view _ _ _) j2; exact Q0; exact Q9; exact j5)
 refine I2 j5 (G9 j5 (H0 (v := .ptr _ _ _) j6 (C9 (off := 1) (s := 1) (r := false) j3 kz j3 ?_)))
 (apply D5 (v := .int _ _) j2; exact Q0; exact Q9; exact j5)
 (apply dixv j4; exact Q0; rfl; exact Q4; exact Q4; exact j3)
 refine C9 (off := 1) (s := 1) (r := false) j3 kz j3 ?_
 (apply dst (u := .int _ _) rfl rfl rfl; exact Q0; exact Q9; rfl; rfl; rfl; rfl; exact kb; rfl; rfl; rfl)
 refine B3 12 [3, 0, 1, 1, 0, 0, 0, 0, 1, 0, 0, 0] [] j2 (by decide +kernel) trivial ?_
 refine A1 (A2 (B9 [0, 1, 3, 7, 0, 0, 32, 96, 224, 0, 992, 2047, 4095, 8191] rfl (by decide +kernel) ?_))
 refine G9 j5 (H0 (v := .ptr _ _ _) j6 (C9 (off := 2) (s := 1) (r := false) j3 kz j3 ?_))
 (apply D5 (v := .view _ _ _) j2; exact Q0; exact Q9; exact j5)
 refine I2 j5 (G9 j5 (H0 (v := .ptr _ _ _) j6 (C9 (off := 0) (s := 1) (r := false) j3 kz j3 ?_)))
 (apply D5 (v := .int _ _) j2; exact Q0; exact Q9; exact j5)
 refine I2 j5 (dcl (s132 tm le ht hle) rfl j5 ?_)
 (apply dixv j4; exact Q0; rfl; exact Q4; exact Q4; exact j3)
 refine C9 (off := 3) (s := 1) (r := false) j3 kz j3 ?_
 (apply dst (u := .int _ _) rfl rfl rfl; exact Q0; exact Q9; rfl; rfl; rfl; rfl; exact kb; rfl; rfl; rfl)
 refine B3 14 [3, 0, 1, 0, 0, 1, 0, 0, 0, 0, 1, 0, 0, 0] [] j2 (by decide +kernel) trivial ?_
 refine A1 (A0 (D9 j5 (D9 j5 (F8 (v := .ptr _ _ _) j6 (C2 (off := 1) (s := 1) (r := false) j3 kz j3 ?_)))))
 (apply C6 (v := .int _ _) j2; exact Q0; exact Q9; exact j5)
 refine D0 j3 ?_ ?_ j3 ?_
 ·exact Q4
 ·exact Q4
 (refine r0 ((op_min rfl rfl rfl).to (v' := .int .i64 (nx + 1)) (by rw [show min (1000000 : Int) (nx + 1) = nx + 1 by omega])) rfl rfl rfl ?_)
 refine F8 (v := .ptr _ _ _) j6 (C2 (off := 1) (s := 1) (r := false) j3 kz j3 ?_)
 (apply D6 (u := .int _ _) j3; exact Q0; exact Q9; rfl; rfl; rfl; rfl; exact kb; rfl; exact j2)
 refine A3 ?_
 exact F2 rfl rfl (K9 (by
  intro jx hjx
  simp only [List.map_cons, List.map_nil, List.mem_cons, List.not_mem_nil, or_false] at hjx
  rcases hjx with rfl | rfl <;> (simp (disch := omega) only [↓appC, ↓updN, ↓updS, ↓app0]) <;> first | rfl | (focus (simp only [List.set_set]; done)) | (simp only [List.set_set]; rfl)) (fun jx hjx hn => by
  simp only [List.map_cons, List.map_nil, List.mem_cons, List.not_mem_nil, or_false, not_or] at hn
  (simp (disch := omega) only [↓appC, ↓updN, ↓updS, ↓app0]))) (Nat.le_refl _)
end Go.Proofs.Ytknnniaoboaghaa
namespace Go.V
open Go
open Go.RowKit (Below)
set_option linter.unusedVariables false
set_option linter.unusedSimpArgs false
theorem Open.byCap {E : Env} {f : FuncId} {az bs : List V} {id off len : Nat} {h : Heap} {n m : Nat} {v : V} {wr : List (Nat × Option Blk)}
    (H : ∀ c, len ≤ c → Open E f (az ++ .vcap id off len c :: bs) h n v wr m) : Open E f (az ++ .view id off len :: bs) h n v wr m := by
  have h0 := H len (Nat.le_refl _)
  unfold Open at h0 ⊢
  refine ⟨h0.1, fun c vs hg hfr hal har => ?_⟩
  have hi : az.length < vs.size := by rw [← hal]; simp
  have hv : VR c (.view id off len) vs[az.length] := har az.length _ _ (by simp) (by simp [hi])
  generalize hw : vs[az.length] = w at hv
  cases hv with
  | view _ _ _ p o cap hp ho hl hm =>
    have h1 := H cap hl
    unfold Open at h1
    refine h1.2 c vs hg hfr (by rw [← hal]; simp) (fun i x u hx hu => ?_)
    by_cases e : i = az.length
    · subst e
      have hx : (az ++ V.vcap id off len cap :: bs)[az.length]? = some x := hx
      rw [List.getElem?_append_right (Nat.le_refl _), Nat.sub_self, List.getElem?_cons_zero] at hx
      cases hx
      have : vs[az.length]? = some vs[az.length] := by simp [hi]
      rw [this, hw] at hu
      cases hu
      exact .vcap id off len cap p o hp ho hl hm
    · refine har i x u ?_ hu
      by_cases e2 : i < az.length
      · rw [List.getElem?_append_left e2] at hx ⊢; exact hx
      · rw [List.getElem?_append_right (by omega)] at hx ⊢
        obtain ⟨k, hk⟩ : ∃ k, i - az.length = k + 1 := ⟨i - az.length - 1, by omega⟩
        rw [hk, List.getElem?_cons_succ] at hx ⊢
        exact hx
section ops
variable {E : Env} {o : Oper} {t : Nat → V} {h : Heap} {n : Nat}
theorem VR.uncap {c : Cx} {id off len cp : Nat} {w : Value} (hv : VR c (.vcap id off len cp) w) : VR c (.view id off len) w := by
  cases hv with
  | vcap _ _ _ _ p o hp ho hl hm => exact .view id off len p o cp hp ho hl hm
theorem op_cap {x : Operand} {ty e : TypeId} {id off len cp : Nat} (ho : o.op = .call { callee := .builtin .cap, args := #[x], argTypes := #[ty] }) (hx : E.eval t x = .vcap id off len cp) (hu : E.P.underlying ty = some (.slice e)) :
    OpOK E o t h n [] false (.int .i64 cp) [] n :=
  OpOK.value fun c a h2 hx' hg hrd => by
    have g1 := hx' x (by simp [ho, Op.operands, Call.operands])
    rw [hx] at g1
    generalize hw : a.eval x = w at g1
    cases g1 with
    | vcap _ _ _ _ p o' hp hof hl hm =>
      refine ⟨.int .i64 cp, ?_, .int _ _⟩
      simp [execOp, ho, hw, resolve, invoke, builtin, Builtin.cap_, run_underlying hu, goInt]
theorem run_boundsC {P : Program} {w : World} {len cap : Nat} {lo hi : Option Value} {l r : Int} (hl : (lo = none ∧ l = 0) ∨ ∃ k, lo = some (.int k l)) (hr : (hi = none ∧ r = len) ∨ ∃ k, hi = some (.int k r))
    (h0 : 0 ≤ l) (h1 : l ≤ r) (h2 : r ≤ cap) (hc : len ≤ cap) : (Instr.sliceBounds true len cap lo hi none).run P w = .ok (l.toNat, r.toNat, cap) w := by
  have hr0 : 0 ≤ r := by omega
  have hlr : l ≤ (r.toNat : Int) := by omega
  rcases hl with ⟨rfl, rfl⟩ | ⟨k, rfl⟩ <;> rcases hr with ⟨rfl, rfl⟩ | ⟨k', rfl⟩
  · simp [Instr.sliceBounds]
  · simp [Instr.sliceBounds, Instr.sliceBound, asIntOf, hr0, h2]
  · simp [Instr.sliceBounds, Instr.sliceBound, asIntOf, h0, h1]
  · simp [Instr.sliceBounds, Instr.sliceBound, asIntOf, h0, hr0, h2, hlr]
    intro hh; omega
theorem P2 {ty e : TypeId} {x : Operand} {lo hi : Option Operand} {id off len cp sz : Nat} {b : Blk} {l r : Int} (ho : o.op = .slice ty x lo hi none) (hx : E.eval t x = .vcap id off len cp)
    (hs : sliceP E.P ty = some (e, sz)) (hb : h id = some b) (hbz : b.sz = sz) (hl : bndV E t lo 0 = some l) (hr : bndV E t hi len = some r) (h0 : 0 ≤ l) (h1 : l ≤ r) (h2 : r ≤ cp) :
    OpOK E o t h n [id] false (.vcap id (off + l.toNat) (r.toNat - l.toNat) (cp - l.toNat)) [] n :=
  OpOK.value fun c a h2' hx' hg hrd => by
    have g1 := hx' x (by simp [ho, Op.operands])
    rw [hx] at g1
    have gl := N8 hl (fun y hy => hx' y (by simp [ho, Op.operands, hy]))
    have gr := N8 hr (fun y hy => hx' y (by simp [ho, Op.operands, hy]))
    obtain ⟨hu, i, hi', hiz⟩ := H7 hs
    generalize hw : a.eval x = w at g1
    cases g1 with
    | vcap _ _ _ _ p off' hp hof hlc hpm =>
      obtain ⟨cells, fz, q2, _⟩ := hg.cells (by rw [hrd id (by simp)]; exact hb) hp hpm
      have hpz : p.sz = i.size := by rw [q2, hbz, hiz]
      have hrun := run_boundsC (P := E.P) (w := c.w) (len := len) (cap := cp) (lo := lo.map a.eval) (hi := hi.map a.eval) (l := l) (r := r)
        (by rcases gl with ⟨rfl, h⟩ | ⟨y, k, rfl, h⟩
            · exact .inl ⟨rfl, h⟩
            · exact .inr ⟨k, by simp [h]⟩)
        (by rcases gr with ⟨rfl, h⟩ | ⟨y, k, rfl, h⟩
            · exact .inl ⟨rfl, h⟩
            · exact .inr ⟨k, by simp [h]⟩) h0 h1 h2 hlc
      have hlcap : l.toNat ≤ cp := by omega
      refine ⟨.slice (some (if cp = l.toNat then ⟨p.b, off', none⟩ else ⟨p.b, off' + l.toNat * i.size, none⟩)) (r.toNat - l.toNat) (cp - l.toNat), ?_, ?_⟩
      · simp [execOp, ho, hw, Instr.sliceAt, Instr.slice, run_underlying hu, hrun, sizeOf, typeInfo, hi', Addr.add_mid]
        split <;> simp_all
      · split
        · rename_i hc
          exact .vcap _ _ _ _ p _ hp (.inl (by omega)) (by omega)
        · rename_i hc
          refine .vcap _ _ _ _ p _ hp (.inr ?_) (by omega)
          have hcap : ¬ cp = 0 := by omega
          obtain ⟨e1, e2⟩ := hof.resolve_left hcap
          refine ⟨by rw [e1, hpz, Nat.add_mul]; omega, ?_⟩
          have : l.toNat * p.sz + (cp - l.toNat) * p.sz = cp * p.sz := by rw [← Nat.add_mul]; congr 1; omega
          rw [Nat.add_mul]; omega
end ops
def putR (es : List (List V)) (d : Nat) (ys : List (List V)) : List (List V) := es.take d ++ ys ++ es.drop (d + ys.length)
theorem putR_len {es : List (List V)} {d : Nat} {ys : List (List V)} (hd : d ≤ es.length) : (putR es d ys).length = max es.length (d + ys.length) := by
  simp [putR]; omega
theorem putR_get {es : List (List V)} {d : Nat} {ys : List (List V)} (hd : d ≤ es.length) (i : Nat) : (putR es d ys)[i]? = if i < d then es[i]? else if i < d + ys.length then ys[i - d]? else es[i]? := by
  unfold putR
  have e1 : (es.take d).length = d := by simp; omega
  by_cases h1 : i < d
  · rw [if_pos h1, List.append_assoc, List.getElem?_append_left (by omega), List.getElem?_take_of_lt h1]
  · rw [if_neg h1, List.append_assoc, List.getElem?_append_right (by omega), e1]
    by_cases h2 : i < d + ys.length
    · rw [if_pos h2, List.getElem?_append_left (by omega)]
    · rw [if_neg h2, List.getElem?_append_right (by omega), List.getElem?_drop]; congr 1; omega
def Cx.put (c : Cx) (p : Place) (o : Nat) (vs : List Value) : Cx := { c with w := c.w.setCells p.b o vs }
theorem Good.put {E : Env} {c : Cx} {h : Heap} (hg : Good E c h) {id : Nat} {b : Blk} {p : Place} (hb : h id = some b) (hp : c.ρ id = some p) (hpm : p.m = false) {d : Nat} {ys : List (List V)} {news : List Value}
    (hd : d ≤ b.es.length) (hyz : ∀ e ∈ ys, e.length = b.sz) (hnl : news.length = ys.length * b.sz) (hget : ∀ i j x, get2 ys i j = some x → ∃ u, news[i * b.sz + j]? = some u ∧ VR c x u)
    (hone : ∀ u ∈ news, u.oneCell' = true) (hfit : (d + ys.length) * b.sz ≤ p.cap ∨ ys = []) :
    Ext c (c.put p (p.o + d * b.sz) news) ∧ Good E (c.put p (p.o + d * b.sz) news) (upd h id (some ⟨putR b.es d ys, b.sz, b.ty⟩)) := by
  have hx : Ext c (c.put p (p.o + d * b.sz) news) :=
    ⟨rfl, fun i q hq => hq, fun _ h => h, fun k hk => H1 _ _ (fun (e : k = p.b) => hg.sep id b p hb hp (by rw [← e]; exact hk)) _ _ _, N2 _ _ (hg.own id p hp).1 _ _ _ _ (Below.refl _ _)⟩
  refine ⟨hx, ?_⟩
  obtain ⟨cells, fz, q2, q3, q4, q5, q6, q7, q8⟩ := hg.cells hb hp hpm
  have hlive : ∀ i x, (upd h id (some ⟨putR b.es d ys, b.sz, b.ty⟩)) i = some x → (i = id ∧ x = ⟨putR b.es d ys, b.sz, b.ty⟩) ∨ (i ≠ id ∧ h i = some x) := by
    intro i x hi
    by_cases h1 : i = id
    · subst h1; rw [upd_same] at hi; exact .inl ⟨rfl, (Option.some.inj hi).symm⟩
    · rw [B8 _ _ h1] at hi; exact .inr ⟨h1, hi⟩
  have hthere : ∀ i x, (upd h id (some ⟨putR b.es d ys, b.sz, b.ty⟩)) i = some x → ∃ x', h i = some x' := fun i x hi => by
    rcases hlive i x hi with ⟨rfl, _⟩ | ⟨_, h1⟩
    · exact ⟨_, hb⟩
    · exact ⟨_, h1⟩
  have hfit' : (d + ys.length) * b.sz ≤ p.cap := by
    rcases hfit with hf | rfl
    · exact hf
    · exact Nat.le_trans (Nat.mul_le_mul_right _ (by simpa using hd)) q6
  refine ⟨fun i x hi => ?_, fun i i' x x' r r' hi hi' hr hr' he => ?_, fun k hk => ?_, fun i x r hi hr => ?_, fun i r hr => ?_, ?_, fun g cs hgc => (hg.glob g cs hgc).mono hx⟩
  · rcases hlive i x hi with ⟨rfl, rfl⟩ | ⟨h1, h3⟩
    · refine ⟨p, hp, fun _ => ⟨setArr cells (p.o + d * b.sz) news, fz, q2, P1 _ _ _ _ _ _ _ q3, q4, by rw [L7]; exact q5, ?_, ?_, ?_⟩, fun h => by rw [hpm] at h; cases h⟩
      · show (putR b.es d ys).length * b.sz ≤ p.cap
        rw [putR_len hd]
        rcases Nat.le_total b.es.length (d + ys.length) with h | h
        · rw [Nat.max_eq_right h]; exact hfit'
        · rw [Nat.max_eq_left h]; exact q6
      · intro e he
        unfold putR at he
        rcases List.mem_append.1 he with h9 | h9
        · rcases List.mem_append.1 h9 with h8 | h8
          · exact q7 e (List.mem_of_mem_take h8)
          · exact hyz e h8
        · exact q7 e (List.mem_of_mem_drop h9)
      · intro i' j y hy
        show ∃ v, (setArr cells (p.o + d * b.sz) news)[p.o + i' * b.sz + j]? = some v ∧ _
        have hy0 : ((putR b.es d ys)[i']?).bind (·[j]?) = some y := hy
        rw [putR_get hd] at hy0
        have old : get2 b.es i' j = some y → (i' < d ∨ d + ys.length ≤ i') → ∃ v, (setArr cells (p.o + d * b.sz) news)[p.o + i' * b.sz + j]? = some v ∧ VR (c.put p (p.o + d * b.sz) news) y v ∧ v.oneCell' = true := fun hy2 hout => by
          obtain ⟨v, g1, g2, g3⟩ := q8 _ _ _ hy2
          have hj : j < b.sz := by
            unfold get2 at hy2
            cases hes : b.es[i']? with
            | none => simp [hes] at hy2
            | some e =>
              simp only [hes, Option.bind_some] at hy2
              have := (List.getElem?_eq_some_iff.1 hy2).1
              rw [q7 e (List.mem_of_getElem? hes)] at this; exact this
          refine ⟨v, ?_, g2.mono hx, g3⟩
          rw [H2 _ _ _ _ ?_, g1]
          rcases hout with h | h
          · left
            have e2 : (i' + 1) * b.sz ≤ d * b.sz := Nat.mul_le_mul_right _ h
            rw [Nat.succ_mul] at e2; omega
          · right
            have e2 : (d + ys.length) * b.sz ≤ i' * b.sz := Nat.mul_le_mul_right _ h
            rw [Nat.add_mul] at e2; rw [hnl]; omega
        by_cases h1 : i' < d
        · rw [if_pos h1] at hy0; exact old hy0 (.inl h1)
        · rw [if_neg h1] at hy0
          by_cases h2 : i' < d + ys.length
          · rw [if_pos h2] at hy0
            obtain ⟨u, g1, g2⟩ := hget (i' - d) j y hy0
            have hlt : (i' - d) * b.sz + j < news.length := (List.getElem?_eq_some_iff.1 g1).1
            refine ⟨u, ?_, g2.mono hx, hone u (List.mem_of_getElem? g1)⟩
            have e1 : p.o + i' * b.sz + j = p.o + d * b.sz + ((i' - d) * b.sz + j) := by
              have : i' * b.sz = d * b.sz + (i' - d) * b.sz := by rw [← Nat.add_mul]; congr 1; omega
              omega
            rw [e1]
            refine I9 news cells _ _ u ?_ g1
            rw [hnl]
            rw [Nat.add_mul] at hfit'; omega
          · rw [if_neg h2] at hy0; exact old hy0 (.inr (by omega))
    · obtain ⟨r, g1, g2, g3⟩ := hg.blk i x h3
      have this : r.b ≠ p.b := fun e => h1 (hg.inj i id x b r p h3 hb g1 hp e)
      have hk : (c.put p (p.o + d * b.sz) news).w.heap[r.b]? = c.w.heap[r.b]? := H1 _ _ this _ _ _
      exact ⟨r, g1, fun hm => (g2 hm).mono hx hk, fun hm => (g3 hm).mono hx hk⟩
  · obtain ⟨y, hy⟩ := hthere i x hi
    obtain ⟨y', hy'⟩ := hthere i' x' hi'
    exact hg.inj i i' y y' r r' hy hy' hr hr' he
  · simp only [Cx.put, G4]; exact hg.imm k hk
  · obtain ⟨y, hy⟩ := hthere i x hi
    exact hg.sep i y r hy hr
  · simp only [Cx.put, G4]; exact hg.own i r hr
  · simp only [Cx.put, G4]; exact hg.base
section ops2
variable {E : Env} {o : Oper} {t : Nat → V} {h : Heap} {n : Nat}
theorem BV {ty e : TypeId} {x : Operand} {lo hi : Option Operand} {id off len cp sz : Nat} {b : Blk} {l r : Int} (ho : o.op = .slice ty x lo hi none) (hx : E.eval t x = .vcap id off len cp)
    (hs : sliceP E.P ty = some (e, sz)) (hb : h id = some b) (hbz : b.sz = sz) (hl : bndV E t lo 0 = some l) (hr : bndV E t hi len = some r) (h0 : 0 ≤ l) (h1 : l ≤ r) (h2 : r ≤ cp) :
    OpOK E o t h n [id] false (.view id (off + l.toNat) (r.toNat - l.toNat)) [] n := by
  have hop := P2 (n := n) ho hx hs hb hbz hl hr h0 h1 h2
  intro c a h3 K Q hd hx' hg hrd hft hf hK
  exact hop c a h3 K Q hd hx' hg hrd hft hf fun c' u he hg' hd' hv => hK c' u he hg' hd' hv.uncap
theorem op_append_in {ty tx e : TypeId} {x y : Operand} {sz by' id off len cp : Nat} {b : Blk} {ys : List (List V)} (ho : o.op = .call { callee := .builtin .append, args := #[x, y], argTypes := #[ty, tx] })
    (hx : E.eval t x = .vcap id off len cp) (hb : h id = some b) (hbz : b.sz = sz) (hbt : b.ty = e) (hle : off + len ≤ b.es.length) (hs : elemP E.P ty = some (e, sz, by')) (htx : srcP E.P tx = true) (h0 : sz ≠ 0)
    (hy : srcV h (E.eval t y) = some ys) (hyz : ∀ c ∈ ys, c.length = sz) (hroom : len + ys.length ≤ cp) :
    OpOK E o t h n (id :: srcIds (E.eval t y)) false (.vcap id off (len + ys.length) cp) [(id, some ⟨putR b.es (off + len) ys, sz, e⟩)] n := by
  intro c a h2 K Q hd hx' hg hrd _ hf hK
  have g1 := hx' x (by simp [ho, Op.operands, Call.operands])
  rw [hx] at g1
  have g2 := hx' y (by simp [ho, Op.operands, Call.operands])
  obtain ⟨i, z, hu, hi, hz, rfl, rfl, hzz⟩ := J2 hs
  obtain ⟨d, htu, hdi⟩ := AB htx
  have hb2 : h2 id = some b := by rw [hrd id (by simp)]; exact hb
  obtain ⟨news, hsrc⟩ := X0 hg g2 (by rw [S8 (fun id hid => hrd id (by simp [hid]))]; exact hy) h0 hyz
  generalize hw : a.eval x = w at g1
  cases g1 with
  | vcap _ _ _ _ p o' hp hof hlc hpm =>
    obtain ⟨cells, fz, q2, q3, q4, q5, q6, q7, q8⟩ := hg.cells hb2 hp hpm
    have hthere : c.w.there p.b (o' + len * i.size) news.length := by
      intro k hk
      rw [hsrc.size] at hk
      have hcap : ¬ cp = 0 := fun e => by
        have : ys.length = 0 := by omega
        rw [this] at hk; simp at hk
      obtain ⟨e1, e2⟩ := hof.resolve_left hcap
      rw [q2, hbz] at e1 e2
      have hle : (len + ys.length) * i.size ≤ cp * i.size := Nat.mul_le_mul_right _ hroom
      rw [Nat.add_mul] at hle
      refine ⟨?_, ?_⟩
      · have : o' + len * i.size + k < cells.size := by omega
        simp [World.cell?, q3, this]
      · have : ¬ (fz.1 ≤ o' + len * i.size + k ∧ o' + len * i.size + k < fz.2) := by omega
        cases hz : (decide (fz.1 ≤ o' + len * i.size + k) && decide (o' + len * i.size + k < fz.2)) with
        | false => obtain ⟨z1, z2⟩ := fz; simpa [World.frozen?, q3] using hz
        | true =>
          simp only [Bool.and_eq_true, decide_eq_true_eq] at hz
          exact absurd hz this
    have hrun := P5 (P := E.P) (w := c.w) (ty := o.type) (sLen := len) (x := a.eval y) (news := news) hu htu hdi hi (hsrc.len _) (hsrc.first _ rfl) hroom hthere hsrc.one
    have hadd : ys ≠ [] → o' = p.o + off * i.size := fun hne => by
      have hcap : ¬ cp = 0 := fun e => by
        have : ys.length = 0 := by omega
        exact hne (List.eq_nil_of_length_eq_zero this)
      obtain ⟨e1, e2⟩ := hof.resolve_left hcap
      rw [q2, hbz] at e1; exact e1
    have hfit : (off + len + ys.length) * b.sz ≤ p.cap ∨ ys = [] := by
      by_cases hys : ys = []
      · exact .inr hys
      · left
        have hcap : ¬ cp = 0 := fun e => by
          have : ys.length = 0 := by omega
          exact hys (List.eq_nil_of_length_eq_zero this)
        obtain ⟨e1, e2⟩ := hof.resolve_left hcap
        have hle : (len + ys.length) * p.sz ≤ cp * p.sz := Nat.mul_le_mul_right _ hroom
        rw [← q2, Nat.add_assoc, Nat.add_mul]; omega
    obtain ⟨hx2, hg2⟩ := hg.put (ys := ys) (news := news) hb2 hp hpm (d := off + len) hle (by rw [hbz]; exact hyz) (by rw [hbz]; exact hsrc.size) (by rw [hbz]; exact hsrc.get) hsrc.one hfit
    have hworld : c.w.setCells p.b (o' + len * i.size) news = (c.put p (p.o + (off + len) * b.sz) news).w := by
      simp only [Cx.put]
      by_cases hys : ys = []
      · have : news = [] := List.eq_nil_of_length_eq_zero (by rw [hsrc.size, hys]; simp)
        subst this; rfl
      · rw [hadd hys, hbz, Nat.add_mul]; congr 1; omega
    have hex : (execOp a.eval o).run E.P c.w = .ok (.value (.slice (some ⟨p.b, o', none⟩) (len + ys.length) cp)) (c.put p (p.o + (off + len) * b.sz) news).w := by
      rw [← hworld]
      simp [execOp, ho, hw, resolve, invoke, builtin, hrun]
    unfold Oper.wp
    rw [hex, Oper.upon_value]
    refine hK _ _ hx2 ?_ (fun id' hid' => .inl hid') ?_
    · have e1 : app [(id, some ⟨putR b.es (off + len) ys, i.size, e⟩)] h2 = upd h2 id (some ⟨putR b.es (off + len) ys, b.sz, b.ty⟩) := by
        rw [hbz, hbt]; rfl
      rw [e1]; exact hg2
    · exact .vcap id off _ cp p o' hp hof hroom hpm
end ops2
def dstV : V → Option (Nat × Nat × Nat)
  | .view id off len => some (id, off, len)
  | .vcap id off len _ => some (id, off, len)
  | _ => none
theorem Z1 {c : Cx} {x : V} {v : Value} {id off len : Nat} (hv : VR c x v) (hx : dstV x = some (id, off, len)) :
    ∃ p o cap, v = .slice (some ⟨p.b, o, none⟩) len cap ∧ c.ρ id = some p ∧ (cap = 0 ∨ (o = p.o + off * p.sz ∧ off * p.sz + cap * p.sz ≤ p.cap)) ∧ len ≤ cap ∧ p.m = false := by
  cases hv with
  | view id' off' len' p o cap hp ho hl hm =>
    simp only [dstV, Option.some.injEq, Prod.mk.injEq] at hx
    obtain ⟨rfl, rfl, rfl⟩ := hx
    exact ⟨p, o, cap, rfl, hp, ho, hl, hm⟩
  | vcap id' off' len' cp p o hp ho hl hm =>
    simp only [dstV, Option.some.injEq, Prod.mk.injEq] at hx
    obtain ⟨rfl, rfl, rfl⟩ := hx
    exact ⟨p, o, cp, rfl, hp, ho, hl, hm⟩
  | _ => simp [dstV] at hx
section ops3
variable {E : Env} {o : Oper} {t : Nat → V} {h : Heap} {n : Nat}
theorem op_copy {ty tx e : TypeId} {x y : Operand} {sz by' id off len id' off' len' k : Nat} {b b' : Blk} (ho : o.op = .call { callee := .builtin .copy, args := #[x, y], argTypes := #[ty, tx] })
    (hx : dstV (E.eval t x) = some (id, off, len)) (hy : dstV (E.eval t y) = some (id', off', len')) (hb : h id = some b) (hb' : h id' = some b') (hbz : b.sz = sz) (hbt : b.ty = e) (hbz' : b'.sz = sz) (hk : Nat.min len' len = k)
    (hle : off ≤ b.es.length) (hle' : off' + k ≤ b'.es.length) (hs : elemP E.P ty = some (e, sz, by')) (h0 : sz ≠ 0) :
    OpOK E o t h n [id, id'] false (.int .i64 k) [(id, some ⟨putR b.es off ((b'.es.drop off').take k), sz, e⟩)] n := by
  intro c a h2 K Q hd hx' hg hrd _ hf hK
  have g1 := hx' x (by simp [ho, Op.operands, Call.operands])
  have g2 := hx' y (by simp [ho, Op.operands, Call.operands])
  obtain ⟨i, z, hu, hi, hz, rfl, rfl, hzz⟩ := J2 hs
  have hb2 : h2 id = some b := by rw [hrd id (by simp)]; exact hb
  have hb2' : h2 id' = some b' := by rw [hrd id' (by simp)]; exact hb'
  obtain ⟨p, o1, cap, hv, hp, hof, hlc, hpm⟩ := Z1 g1 hx
  obtain ⟨p', o2, cap', hv', hp', hof', hlc', hpm'⟩ := Z1 g2 hy
  have hk1 : k ≤ len := by rw [← hk]; exact Nat.min_le_right _ _
  have hk2 : k ≤ len' := by rw [← hk]; exact Nat.min_le_left _ _
  have hsv : srcV h2 (.view id' off' k) = some ((b'.es.drop off').take k) := by simp [srcV, hb2', hle']
  have hvk : VR c (.view id' off' k) (.slice (some ⟨p'.b, o2, none⟩) k cap') := .view _ _ _ p' o2 cap' hp' hof' (by omega) hpm'
  obtain ⟨cells, fz, q2, q3, q4, q5, q6, q7, q8⟩ := hg.cells hb2 hp hpm
  obtain ⟨cells', fz', r2, r3, r4, r5, r6, r7, r8⟩ := hg.cells hb2' hp' hpm'
  have hyz : ∀ e ∈ (b'.es.drop off').take k, e.length = i.size := fun e he => by rw [r7 e (List.mem_of_mem_drop (List.mem_of_mem_take he)), hbz']
  obtain ⟨news, hsrc⟩ := X0 hg hvk hsv h0 hyz
  have hyl : ((b'.es.drop off').take k).length = k := by simp; omega
  generalize hys : (b'.es.drop off').take k = ys at *
  have hthere : c.w.there p.b o1 news.length := by
    intro j hj
    rw [hsrc.size, hyl] at hj
    have hcap : ¬ cap = 0 := fun e => by
      have : k = 0 := by omega
      rw [this] at hj; simp at hj
    obtain ⟨e1, e2⟩ := hof.resolve_left hcap
    rw [q2, hbz] at e1 e2
    have hle : k * i.size ≤ cap * i.size := Nat.mul_le_mul_right _ (by omega)
    refine ⟨?_, ?_⟩
    · have : o1 + j < cells.size := by omega
      simp [World.cell?, q3, this]
    · have : ¬ (fz.1 ≤ o1 + j ∧ o1 + j < fz.2) := by omega
      cases hz : (decide (fz.1 ≤ o1 + j) && decide (o1 + j < fz.2)) with
      | false => obtain ⟨z1, z2⟩ := fz; simpa [World.frozen?, q3] using hz
      | true =>
        simp only [Bool.and_eq_true, decide_eq_true_eq] at hz
        exact absurd hz this
  have hst := run_storeCells_cells (P := E.P) p.b o1 news 0 c.w (fun j hj => by simpa using (hthere j hj).1) (fun j hj => by simpa using (hthere j hj).2) hsrc.one
  simp only [Nat.add_zero] at hst
  have hfirst : (Builtin.firstCells i.size k (a.eval y)).run E.P c.w = .ok news.toArray c.w := by
    rw [hv']
    have := hsrc.first c.w rfl
    rw [hyl] at this; exact this
  have hadd : ys ≠ [] → o1 = p.o + off * i.size := fun hne => by
    have hcap : ¬ cap = 0 := fun e => by
      have : ys.length = 0 := by omega
      exact hne (List.eq_nil_of_length_eq_zero this)
    obtain ⟨e1, e2⟩ := hof.resolve_left hcap
    rw [q2, hbz] at e1; exact e1
  have hfit : (off + ys.length) * b.sz ≤ p.cap ∨ ys = [] := by
    by_cases hys : ys = []
    · exact .inr hys
    · left
      have hcap : ¬ cap = 0 := fun e => by
        have : ys.length = 0 := by omega
        exact hys (List.eq_nil_of_length_eq_zero this)
      obtain ⟨e1, e2⟩ := hof.resolve_left hcap
      have hle : ys.length * p.sz ≤ cap * p.sz := Nat.mul_le_mul_right _ (by omega)
      rw [← q2, Nat.add_mul]; omega
  obtain ⟨hx2, hg2⟩ := hg.put (ys := ys) (news := news) hb2 hp hpm (d := off) hle (by rw [hbz]; exact hyz) (by rw [hbz]; exact hsrc.size) (by rw [hbz]; exact hsrc.get) hsrc.one hfit
  have hworld : c.w.setCells p.b o1 news = (c.put p (p.o + off * b.sz) news).w := by
    simp only [Cx.put]
    by_cases hys : ys = []
    · have : news = [] := List.eq_nil_of_length_eq_zero (by rw [hsrc.size, hys]; simp)
      subst this; rfl
    · rw [hadd hys, hbz]
  have hlen : (Builtin.lenOf (a.eval y)).run E.P c.w = .ok len' c.w := by rw [hv']; simp [Builtin.lenOf]
  have hex : (execOp a.eval o).run E.P c.w = .ok (.value (.int .i64 k)) (c.put p (p.o + off * b.sz) news).w := by
    rw [← hworld]
    simp [execOp, ho, hv, resolve, invoke, builtin, Builtin.copy_, run_underlying hu, hlen, hk, sizeOf, typeInfo, hi, hfirst, hst, goInt]
  unfold Oper.wp
  rw [hex, Oper.upon_value]
  refine hK _ _ hx2 ?_ (fun id' hid' => .inl hid') (.int _ _)
  have e1 : app [(id, some ⟨putR b.es off ys, i.size, e⟩)] h2 = upd h2 id (some ⟨putR b.es off ys, b.sz, b.ty⟩) := by
    rw [hbz, hbt]; rfl
  rw [e1]; exact hg2
end ops3
def zeroOne (P : Program) (e : TypeId) : Bool := match P.info? e with
  | some i => match i.zero with
    | some z => z.cells.all fun v => v.oneCell'
    | none => false
  | none => false
theorem W8 {z : Array Value} {k : Nat} (h : z.all (fun v => v.oneCell') = true) (h0 : z.size ≠ 0) : ∀ u ∈ (Builtin.zeroCells z k).toList, u.oneCell' = true := fun u hu => by
  unfold Builtin.zeroCells at hu
  simp only [Array.toList_map, List.mem_map] at hu
  obtain ⟨j, _, rfl⟩ := hu
  have hlt : j % z.size < z.size := Nat.mod_lt _ (Nat.pos_of_ne_zero h0)
  rw [getElem!_pos z _ hlt]
  exact (Array.all_eq_true.1 h) _ hlt
theorem get2_unk {k sz i j : Nat} {x : V} (h : get2 (List.replicate k (List.replicate sz V.unk)) i j = some x) : i < k ∧ j < sz ∧ x = .unk := by
  unfold get2 at h
  rw [List.getElem?_replicate] at h
  split at h
  · rename_i hi
    simp only [Option.bind_some] at h
    rw [List.getElem?_replicate] at h
    split at h
    · rename_i hj; exact ⟨hi, hj, (Option.some.inj h).symm⟩
    · cases h
  · cases h
section ops4
variable {E : Env} {o : Oper} {t : Nat → V} {h : Heap} {n : Nat}
theorem BW {ty tx e : TypeId} {x y : Operand} {kk kn : IntKind} {sz by' id off len cp k : Nat} {b : Blk} (ho : o.op = .call { callee := .builtin .append, args := #[x, y], argTypes := #[ty, tx] })
    (hx : E.eval t x = .vcap id off len cp) (hy : E.eval t y = .int kk k) (hb : h id = some b) (hbz : b.sz = sz) (hle : off + len ≤ b.es.length) (hs : elemP E.P ty = some (e, sz, by')) (htn : E.P.underlying tx = some (.int kn))
    (hone : zeroOne E.P e = true) (h0 : sz ≠ 0) (hk : 0 < k) (hroom : cp < len + k) (hbd : (len + k) * by' ≤ 140737488355328) (hl : len + k ≤ 9223372036854775807) :
    OpOK E o t h n [id] false (.view n 0 (len + k)) [(n, some ⟨(b.es.drop off).take len ++ List.replicate k (List.replicate sz .unk), sz, e⟩)] (n + 1) := by
  intro c a h2 K Q hd hx' hg hrd _ hf hK
  have g1 := hx' x (by simp [ho, Op.operands, Call.operands])
  rw [hx] at g1
  have g2 := (by have := hx' y (by simp [ho, Op.operands, Call.operands]); rw [hy] at this; exact this.int_inv)
  obtain ⟨i, z, hu, hi, hz, rfl, rfl, hzz⟩ := J2 hs
  have hzo : z.cells.all (fun v => v.oneCell') = true := by
    unfold zeroOne at hone
    rw [hi] at hone
    simp only [hz] at hone
    exact hone
  have hb2 : h2 id = some b := by rw [hrd id (by simp)]; exact hb
  have hn : c.ρ n = none := hf n (Nat.le_refl _) (by omega)
  have hold : srcV h2 (.view id off len) = some ((b.es.drop off).take len) := by simp [srcV, hb2, hle]
  have hpb : ∃ p, c.ρ id = some p ∧ p.m = false := by
    generalize a.eval x = w at g1
    cases g1 with
    | vcap _ _ _ _ p _ hp _ _ hm => exact ⟨p, hp, hm⟩
  obtain ⟨pb, q1, hpm⟩ := hpb
  obtain ⟨cells, fz, q2, q3, q4, q5, q6, q7, q8⟩ := hg.cells hb2 q1 hpm
  have hdz : ∀ e ∈ (b.es.drop off).take len, e.length = i.size := fun e he => by rw [q7 e (List.mem_of_mem_drop (List.mem_of_mem_take he)), hbz]
  obtain ⟨olds, hos⟩ := X0 hg g1.uncap hold h0 hdz
  have hdl : ((b.es.drop off).take len).length = len := by simp; omega
  generalize hxs : (b.es.drop off).take len = xs at *
  generalize hw : a.eval x = w at g1 hos
  cases g1 with
  | vcap _ _ _ _ p o' hp hof hlc =>
    have hxd : Ext c { c with w := c.w.drew } := Ext.same c j4
    have hgd := hg.drew
    have hfo : (Builtin.firstCells i.size len (.slice (some ⟨p.b, o', none⟩) len cp)).run E.P c.w.drew = .ok olds.toArray c.w.drew := by
      have := hos.first c.w.drew rfl
      rw [hdl] at this; exact this
    have hkb : k * i.bytes ≤ 281474976710656 := Nat.le_trans (Nat.mul_le_mul_right _ (by omega : k ≤ len + k)) (Nat.le_trans hbd (by decide))
    have hrun := Lib.run_append_grow_zeros (P := E.P) (ty := o.type) c.w ty tx e i z kk kn hu htn hi hz (some ⟨p.b, o', none⟩) len cp olds hfo k hk (by omega) hroom (by omega) hkb (growslice_fits (by omega) hbd)
    have hge := grownCap_ge c.w (len + k) cp e
    generalize hcap : grownCap c.w (len + k) cp e = ncap at hrun hge
    let news : List Value := (Builtin.zeroCells z.cells k).toList
    have hnl : news.length = k * i.size := by simp only [news, Array.length_toList, size_zeroCells, hzz]
    have hcells : olds.toArray ++ Builtin.zeroCells z.cells k ++ Builtin.zeroCells z.cells (ncap - (len + k)) = (olds ++ news).toArray ++ Builtin.zeroCells z.cells (ncap - (len + k)) := by
      apply Array.ext'
      simp only [news, Array.toList_append, List.append_assoc]
    rw [hcells] at hrun
    have hex : (execOp a.eval o).run E.P c.w = .ok (.value (.slice (some ⟨c.w.heap.size, 0, none⟩) (len + k) ncap)) (({ c with w := c.w.drew } : Cx).new n ((olds ++ news).toArray ++ Builtin.zeroCells z.cells (ncap - (len + k))) e i.size).w := by
      have hrun' := hrun
      simp only [execOp, ho, resolve, invoke, builtin, List.map_toArray, List.map_cons, List.map_nil, hw, g2, Sem.run_bind, Sem.run_pure, Result.andThen_ok, hrun', Cx.new]
    unfold Oper.wp
    rw [hex, Oper.upon_value]
    have hyz : ∀ e ∈ List.replicate k (List.replicate i.size V.unk), e.length = i.size := fun e he => by rw [List.eq_of_mem_replicate he]; simp
    have hrows := X1 (c := c) (xs := xs) (ys := List.replicate k (List.replicate i.size V.unk)) (olds := olds) (news := news) (rest := Builtin.zeroCells z.cells (ncap - (len + k))) (sz := i.size) hos.size (by rw [hnl]; simp) hdz hyz hos.get
      (fun i' j y hy => by
        obtain ⟨e1, e2, rfl⟩ := get2_unk hy
        have : (i' + 1) * i.size ≤ k * i.size := Nat.mul_le_mul_right _ e1
        rw [Nat.succ_mul] at this
        have hlt2 : i' * i.size + j < news.length := by omega
        exact ⟨_, List.getElem?_eq_getElem hlt2, .unk _⟩)
    have hsize : ((olds ++ news).toArray ++ Builtin.zeroCells z.cells (ncap - (len + k))).size = ncap * i.size := by
      simp only [Array.size_append, List.size_toArray, List.length_append, size_zeroCells, hnl, hos.size, hzz, hdl]
      rw [← Nat.add_mul, ← Nat.add_mul]; congr 1; omega
    have hx2 := Cx.new_ext hgd (n := n) hn ((olds ++ news).toArray ++ Builtin.zeroCells z.cells (ncap - (len + k))) e i.size
    have hell : (xs ++ List.replicate k (List.replicate i.size V.unk)).length = len + k := by rw [List.length_append, hdl, List.length_replicate]
    have hg3 := Good.new (es := xs ++ List.replicate k (List.replicate i.size V.unk)) hgd hn ((olds ++ news).toArray ++ Builtin.zeroCells z.cells (ncap - (len + k))) e i.size (by
        rw [hsize, hell]; exact Nat.mul_le_mul_right _ hge) (fun e he => by
        rcases List.mem_append.1 he with h9 | h9
        · exact hdz e h9
        · exact hyz e h9) (fun i' j x hx => by
        obtain ⟨u, k1, k2⟩ := hrows i' j x hx
        refine ⟨u, k1, k2.mono (hxd.trans hx2), ?_⟩
        have hlt : i' * i.size + j < (olds ++ news).length := by
          have hil : i' < (xs ++ List.replicate k (List.replicate i.size V.unk)).length := by
            unfold get2 at hx
            cases h9 : (xs ++ List.replicate k (List.replicate i.size V.unk))[i']? with
            | none => simp [h9] at hx
            | some _ => exact (List.getElem?_eq_some_iff.1 h9).1
          have hjl : j < i.size := by
            unfold get2 at hx
            cases h9 : (xs ++ List.replicate k (List.replicate i.size V.unk))[i']? with
            | none => simp [h9] at hx
            | some r =>
              simp only [h9, Option.bind_some] at hx
              have h10 := (List.getElem?_eq_some_iff.1 hx).1
              rcases List.mem_append.1 (List.mem_of_getElem? h9) with h11 | h11
              · rw [hdz r h11] at h10; exact h10
              · rw [hyz r h11] at h10; exact h10
          rw [hell] at hil
          have : (i' + 1) * i.size ≤ (len + k) * i.size := Nat.mul_le_mul_right _ hil
          rw [Nat.succ_mul, Nat.add_mul] at this
          rw [List.length_append, hos.size, hdl, hnl]; omega
        rw [Array.getElem?_append_left (by simpa using hlt)] at k1
        have hm : u ∈ olds ++ news := List.mem_of_getElem? (i := i' * i.size + j) (by simpa using k1)
        rcases List.mem_append.1 hm with h9 | h9
        · exact hos.one u h9
        · exact W8 hzo (by rw [hzz]; exact h0) u h9)
    refine hK _ _ (hxd.trans hx2) hg3 (BB _ _ _ _ _) ?_
    have := VR.view (c := ({ c with w := c.w.drew } : Cx).new n ((olds ++ news).toArray ++ Builtin.zeroCells z.cells (ncap - (len + k))) e i.size) n 0 (len + k) ⟨c.w.heap.size, 0, _, i.size, false⟩ 0 ncap (by simp [Cx.new]; rfl) (.inr ⟨by simp, ?_⟩) hge
    · simpa using this
    · simp only [Nat.zero_mul, Nat.zero_add]
      rw [← hsize]; simp
end ops4
section ops5
variable {E : Env} {o : Oper} {t : Nat → V} {h : Heap} {n : Nat}
def ApartRun (P : Program) (f : FuncId) : Prop := ∀ (w : World) (a b : Addr) (la ca lb cb : Nat) (tA tB : TypeId) (kA kB : Nat), a.block ≠ b.block → w.shape? a.block = some (tA, kA) → w.shape? b.block = some (tB, kB) → kB ≠ 0 →
  w.frozen? a = false → w.frozen? { block := a.block, off := kA } = false → (callFunc f #[.slice (some a) la ca, .slice (some b) lb cb]).run P w = .ok (.value (.bool false)) w
theorem op_apart {fo x y : Operand} {tys : Array TypeId} {f : FuncId} {i j m i' j' m' : Nat} {B B' : Blk} (hrun : ApartRun E.P f)
    (ho : o.op = .call { callee := .value fo, args := #[x, y], argTypes := tys }) (hc : E.eval t fo = .clo f []) (hx : dstV (E.eval t x) = some (i, j, m)) (hy : dstV (E.eval t y) = some (i', j', m')) (hne : i ≠ i')
    (hb : h i = some B) (hb' : h i' = some B') (h1 : B.sz ≠ 1) (h2 : 0 < B'.es.length * B'.sz) : OpOK E o t h n [i, i'] false (.bool false) [] n :=
  OpOK.value fun c a h3 hx' hg hrd => by
    have g0 := hx' fo (by simp [ho, Op.operands, Call.operands])
    rw [hc] at g0
    obtain ⟨p, o1, cap, hv, hp, hof, hlc, hpm⟩ := Z1 (hx' x (by simp [ho, Op.operands, Call.operands])) hx
    obtain ⟨p', o2, cap', hv', hp', hof', hlc', hpm'⟩ := Z1 (hx' y (by simp [ho, Op.operands, Call.operands])) hy
    have hb3 : h3 i = some B := by rw [hrd i (by simp)]; exact hb
    have hb3' : h3 i' = some B' := by rw [hrd i' (by simp)]; exact hb'
    obtain ⟨cells, fz, q2, q3, q4, q5, q6, q7, q8⟩ := hg.cells hb3 hp hpm
    obtain ⟨cells', fz', r2, r3, r4, r5, r6, r7, r8⟩ := hg.cells hb3' hp' hpm'
    have hblk : p.b ≠ p'.b := fun e => hne (hg.inj i i' B B' p p' hb3 hb3' hp hp' e)
    have hfz : fz.1 = fz.2 := q4.resolve_right (fun e => h1 e.2)
    have hfr : ∀ k, c.w.frozen? ⟨p.b, k, none⟩ = false := fun k => by
      have : ¬ (fz.1 ≤ k ∧ k < fz.2) := by omega
      cases hz : (decide (fz.1 ≤ k) && decide (k < fz.2)) with
      | false => obtain ⟨z1, z2⟩ := fz; simpa [World.frozen?, q3] using hz
      | true =>
        simp only [Bool.and_eq_true, decide_eq_true_eq] at hz
        exact absurd hz this
    have hr := hrun c.w ⟨p.b, o1, none⟩ ⟨p'.b, o2, none⟩ m cap m' cap' B.ty B'.ty cells.size cells'.size hblk (by simp [World.shape?, q3]) (by simp [World.shape?, r3]) (by omega) (hfr _) (hfr _)
    refine ⟨.bool false, ?_, .bool _⟩
    generalize hw : a.eval fo = w at g0
    cases g0 with
    | clo _ _ vs hl hh =>
      have : vs = #[] := Array.eq_empty_of_size_eq_zero (by simpa using hl.symm)
      subst this
      simp [execOp, ho, hw, resolve, Deferred.ofValue, invoke, hv, hv', hr]
end ops5
end Go.V
namespace Go.V
open Go
set_option linter.unusedVariables false
section
variable {E : Env} {sz : Nat} {t : Nat → V} {h : Heap} {n : Nat} {ops : Array Oper} {l : List Oper} {o : Oper} {bl : List Nat} {pre : List Ef} {R : (Nat → V) → Heap → Nat → Prop} {x y : Operand} {ty ty' : TypeId} {k : IntKind} {a b : Int}
theorem rcap {e : TypeId} {i j m cp : Nat} (ho : o.op = .call { callee := .builtin .cap, args := #[x], argTypes := #[ty] }) {d : Nat} (G0 : E.eval t x = .vcap i j m cp ∧ E.P.underlying ty = some (.slice e) ∧ o.dst = some d ∧ Nat.blt d sz = true ∧ guardV ops t o = some true) (w : WR E sz ops l (upd t d (.int .i64 cp)) h n R) : WR E sz ops (o :: l) t h n R := have ⟨hx, hu, hdd, hd, hg⟩ := G0; r0 (op_cap ho hx hu) hdd hd hg w
theorem AE {lo hi : Option Operand} {e : TypeId} {i j m cp s : Nat} {B : Blk} (G0 : o.op = .slice ty x lo hi none ∧ E.eval t x = .vcap i j m cp ∧ sliceP E.P ty = some (e, s)) (hb : h i = some B) (G1 : B.sz = s ∧ bndV E t lo 0 = some a ∧ bndV E t hi m = some b) (h0 : 0 ≤ a) (h1 : a ≤ b) (h2 : b ≤ cp) {d : Nat} (G2 : o.dst = some d ∧ Nat.blt d sz = true ∧ guardV ops t o = some true) (w : WR E sz ops l (upd t d (.vcap i (j + a.toNat) (b.toNat - a.toNat) (cp - a.toNat))) h n R) : WR E sz ops (o :: l) t h n R := have ⟨ho, hx, hs⟩ := G0; have ⟨hbz, hl, hr⟩ := G1; have ⟨hdd, hd, hg⟩ := G2; r0 (P2 ho hx hs hb hbz hl hr h0 h1 h2) hdd hd hg w
theorem dslc {lo hi : Option Operand} {e : TypeId} {i j m cp s : Nat} {B : Blk} (G0 : o.op = .slice ty x lo hi none ∧ E.eval t x = .vcap i j m cp ∧ sliceP E.P ty = some (e, s)) (hb : h i = some B) (G1 : B.sz = s ∧ bndV E t lo 0 = some a ∧ bndV E t hi m = some b) (h0 : 0 ≤ a) (h1 : a ≤ b) (h2 : b ≤ cp) {d : Nat} (G2 : o.dst = some d ∧ Nat.blt d sz = true ∧ guardV ops t o = some true) (w : WD E sz ops bl (⟨false, .vcap i (j + a.toNat) (b.toNat - a.toNat) (cp - a.toNat), [i], false, [], n, n⟩ :: pre) l (upd t d (.vcap i (j + a.toNat) (b.toNat - a.toNat) (cp - a.toNat))) h n R) : WD E sz ops bl pre (o :: l) t h n R := have ⟨ho, hx, hs⟩ := G0; have ⟨hbz, hl, hr⟩ := G1; have ⟨hdd, hd, hg⟩ := G2; d0 (P2 ho hx hs hb hbz hl hr h0 h1 h2) hdd hd hg w
theorem dslcV {lo hi : Option Operand} {e : TypeId} {i j m cp s : Nat} {B : Blk} (G0 : o.op = .slice ty x lo hi none ∧ E.eval t x = .vcap i j m cp ∧ sliceP E.P ty = some (e, s)) (hb : h i = some B) (G1 : B.sz = s ∧ bndV E t lo 0 = some a ∧ bndV E t hi m = some b) (h0 : 0 ≤ a) (h1 : a ≤ b) (h2 : b ≤ cp) {d : Nat} (G2 : o.dst = some d ∧ Nat.blt d sz = true ∧ guardV ops t o = some true) (w : WD E sz ops bl (⟨false, .view i (j + a.toNat) (b.toNat - a.toNat), [i], false, [], n, n⟩ :: pre) l (upd t d (.view i (j + a.toNat) (b.toNat - a.toNat))) h n R) : WD E sz ops bl pre (o :: l) t h n R := have ⟨ho, hx, hs⟩ := G0; have ⟨hbz, hl, hr⟩ := G1; have ⟨hdd, hd, hg⟩ := G2; d0 (BV ho hx hs hb hbz hl hr h0 h1 h2) hdd hd hg w
theorem dapi {s s' i j m cp : Nat} {B : Blk} {es : List (List V)} {e : TypeId} (ho : o.op = .call { callee := .builtin .append, args := #[x, y], argTypes := #[ty, ty'] }) (hx : E.eval t x = .vcap i j m cp) (hb : h i = some B) (G0 : B.sz = s ∧ B.ty = e) (hle : j + m ≤ B.es.length) (G1 : elemP E.P ty = some (e, s, s') ∧ srcP E.P ty' = true) (h0 : s ≠ 0) (hy : srcV h (E.eval t y) = some es) (hyz : ∀ c ∈ es, c.length = s) (hroom : m + es.length ≤ cp) {d : Nat} (G2 : o.dst = some d ∧ Nat.blt d sz = true ∧ guardV ops t o = some true) (w : WD E sz ops bl (⟨false, .vcap i j (m + es.length) cp, (i :: srcIds (E.eval t y)), false, [(i, some ⟨putR B.es (j + m) es, s, e⟩)], n, n⟩ :: pre) l (upd t d (.vcap i j (m + es.length) cp)) (app [(i, some ⟨putR B.es (j + m) es, s, e⟩)] h) n R) : WD E sz ops bl pre (o :: l) t h n R := have ⟨hbz, hbt⟩ := G0; have ⟨hs, htx⟩ := G1; have ⟨hdd, hd, hg⟩ := G2; dOpD (op_append_in ho hx hb hbz hbt hle hs htx h0 hy hyz hroom) hdd hd hg (by omega) (fun h => by simp at h) w
theorem rapm {kk kn : IntKind} {s s' i j m cp q : Nat} {B : Blk} {e : TypeId} (ho : o.op = .call { callee := .builtin .append, args := #[x, y], argTypes := #[ty, ty'] }) (G0 : E.eval t x = .vcap i j m cp ∧ E.eval t y = .int kk q) (hb : h i = some B) (hbz : B.sz = s) (hle : j + m ≤ B.es.length) (G1 : elemP E.P ty = some (e, s, s') ∧ E.P.underlying ty' = some (.int kn)) (hone : zeroOne E.P e = true) (h0 : s ≠ 0) (hk : 0 < q) (hroom : cp < m + q) (hbd : (m + q) * s' ≤ 140737488355328) (hl : m + q ≤ 9223372036854775807) {d : Nat} (G2 : o.dst = some d ∧ Nat.blt d sz = true ∧ guardV ops t o = some true) (w : WR E sz ops l (upd t d (.view n 0 (m + q))) (app [(n, some ⟨(B.es.drop j).take m ++ List.replicate q (List.replicate s .unk), s, e⟩)] h) (n + 1) R) : WR E sz ops (o :: l) t h n R := have ⟨hx, hy⟩ := G0; have ⟨hs, htn⟩ := G1; have ⟨hdd, hd, hg⟩ := G2; rOpD (BW ho hx hy hb hbz hle hs htn hone h0 hk hroom hbd hl) hdd hd hg (by omega) (fun h => by simp at h) w
theorem rcpy {s s' i j m i' j' m' q : Nat} {B B' : Blk} {e : TypeId} (ho : o.op = .call { callee := .builtin .copy, args := #[x, y], argTypes := #[ty, ty'] }) (G0 : dstV (E.eval t x) = some (i, j, m) ∧ dstV (E.eval t y) = some (i', j', m')) (hb : h i = some B) (hb2 : h i' = some B') (G1 : B.sz = s ∧ B.ty = e ∧ B'.sz = s) (hk : Nat.min m' m = q) (hle : j ≤ B.es.length) (hle2 : j' + q ≤ B'.es.length) (hs : elemP E.P ty = some (e, s, s')) (h0 : s ≠ 0) {d : Nat} (G2 : o.dst = some d ∧ Nat.blt d sz = true ∧ guardV ops t o = some true) (w : WR E sz ops l (upd t d (.int .i64 q)) (app [(i, some ⟨putR B.es j ((B'.es.drop j').take q), s, e⟩)] h) n R) : WR E sz ops (o :: l) t h n R := have ⟨hx, hy⟩ := G0; have ⟨hbz, hbt, hbz2⟩ := G1; have ⟨hdd, hd, hg⟩ := G2; rOpD (op_copy ho hx hy hb hb2 hbz hbt hbz2 hk hle hle2 hs h0) hdd hd hg (by omega) (fun h => by simp at h) w
theorem dcpy {s s' i j m i' j' m' q : Nat} {B B' : Blk} {e : TypeId} (ho : o.op = .call { callee := .builtin .copy, args := #[x, y], argTypes := #[ty, ty'] }) (G0 : dstV (E.eval t x) = some (i, j, m) ∧ dstV (E.eval t y) = some (i', j', m')) (hb : h i = some B) (hb2 : h i' = some B') (G1 : B.sz = s ∧ B.ty = e ∧ B'.sz = s) (hk : Nat.min m' m = q) (hle : j ≤ B.es.length) (hle2 : j' + q ≤ B'.es.length) (hs : elemP E.P ty = some (e, s, s')) (h0 : s ≠ 0) {d : Nat} (G2 : o.dst = some d ∧ Nat.blt d sz = true ∧ guardV ops t o = some true) (w : WD E sz ops bl (⟨false, .int .i64 q, [i, i'], false, [(i, some ⟨putR B.es j ((B'.es.drop j').take q), s, e⟩)], n, n⟩ :: pre) l (upd t d (.int .i64 q)) (app [(i, some ⟨putR B.es j ((B'.es.drop j').take q), s, e⟩)] h) n R) : WD E sz ops bl pre (o :: l) t h n R := have ⟨hx, hy⟩ := G0; have ⟨hbz, hbt, hbz2⟩ := G1; have ⟨hdd, hd, hg⟩ := G2; dOpD (op_copy ho hx hy hb hb2 hbz hbt hbz2 hk hle hle2 hs h0) hdd hd hg (by omega) (fun h => by simp at h) w
theorem Z5 {i j m c : Nat} {d : Nat} (G0 : o.op = .move x ∧ E.eval t x = .vcap i j m c ∧ o.dst = some d ∧ Nat.blt d sz = true ∧ guardV ops t o = some true) (w : WR E sz ops l (upd t d (.vcap i j m c)) h n R) : WR E sz ops (o :: l) t h n R := have ⟨ho, hx, hdd, hd, hg⟩ := G0; r0 (oMv ho hx) hdd hd hg w
theorem dmK {i j m c : Nat} {d : Nat} (G0 : o.op = .move x ∧ E.eval t x = .vcap i j m c ∧ o.dst = some d ∧ Nat.blt d sz = true ∧ guardV ops t o = some true) (w : WD E sz ops bl (⟨false, .vcap i j m c, [], false, [], n, n⟩ :: pre) l (upd t d (.vcap i j m c)) h n R) : WD E sz ops bl pre (o :: l) t h n R := have ⟨ho, hx, hdd, hd, hg⟩ := G0; d0 (oMv ho hx) hdd hd hg w
theorem raK {i j m c : Nat} {d : Nat} (G0 : o.op = .assign x ∧ E.eval t x = .vcap i j m c ∧ o.dst = some d ∧ Nat.blt d sz = true ∧ guardV ops t o = some true) (w : WR E sz ops l (upd t d (.vcap i j m c)) h n R) : WR E sz ops (o :: l) t h n R := have ⟨ho, hx, hdd, hd, hg⟩ := G0; r0 (oAs ho hx) hdd hd hg w
theorem daK {i j m c : Nat} {d : Nat} (G0 : o.op = .assign x ∧ E.eval t x = .vcap i j m c ∧ o.dst = some d ∧ Nat.blt d sz = true ∧ guardV ops t o = some true) (w : WD E sz ops bl (⟨false, .vcap i j m c, [], false, [], n, n⟩ :: pre) l (upd t d (.vcap i j m c)) h n R) : WD E sz ops bl pre (o :: l) t h n R := have ⟨ho, hx, hdd, hd, hg⟩ := G0; d0 (oAs ho hx) hdd hd hg w
theorem rapt {z : Operand} {tys : Array TypeId} {f : FuncId} {i j m i' j' m' : Nat} {B B' : Blk} (hrun : ApartRun E.P f) (ho : o.op = .call { callee := .value z, args := #[x, y], argTypes := tys }) (G0 : E.eval t z = .clo f [] ∧ dstV (E.eval t x) = some (i, j, m) ∧ dstV (E.eval t y) = some (i', j', m')) (hne : i ≠ i') (hb : h i = some B) (hb2 : h i' = some B') (h1 : B.sz ≠ 1) (h2 : 0 < B'.es.length * B'.sz) {d : Nat} (G1 : o.dst = some d ∧ Nat.blt d sz = true ∧ guardV ops t o = some true) (w : WR E sz ops l (upd t d (.bool false)) h n R) : WR E sz ops (o :: l) t h n R := have ⟨hc, hx, hy⟩ := G0; have ⟨hdd, hd, hg⟩ := G1; r0 (op_apart hrun ho hc hx hy hne hb hb2 h1 h2) hdd hd hg w
end
end Go.V
namespace Go.Proofs.Ytknnniaoboaghaa
open Go.V
set_option linter.unusedVariables false
set_option linter.unusedSimpArgs false
set_option maxRecDepth 20000
set_option maxHeartbeats 4000000
theorem putR_A {A T Y : List (List V)} {d : Nat} (hd : A.length = d) (hY : Y.length ≤ T.length) : putR (A ++ T) d Y = A ++ (Y ++ T.drop Y.length) := by
 subst hd
 unfold putR
 rw [List.take_left, List.append_assoc]
 congr 2
 rw [List.drop_append, List.drop_of_length_le (by omega), List.nil_append, Nat.add_sub_cancel_left]
theorem insR {A B T : List (List V)} {x : List V} {d : Nat} (hd : A.length = d) (hT : T.length = B.length + 1) : putR (putR (A ++ T) d [x]) (d + 1) B = A ++ x :: B := by
 rw [putR_A hd (by simp; omega)]
 have e : A ++ ([x] ++ T.drop ([x] : List (List V)).length) = (A ++ [x]) ++ T.drop 1 := by simp
 rw [e, putR_A (by simp; omega) (by simp; omega), List.drop_of_length_le (by simp; omega)]
 simp
theorem insI {A B : List (List V)} {x : List V} {d : Nat} (hd : A.length = d) : putR (putR (A ++ B) (d + 1) B) d [x] = A ++ x :: B := by
 subst hd
 cases B with
 | nil => simp [putR]
 | cons b r =>
  have e : putR (A ++ b :: r) (A.length + 1) (b :: r) = A ++ b :: b :: r := by
   unfold putR
   rw [List.take_append, List.take_of_length_le (by omega), show A.length + 1 - A.length = 1 by omega, List.drop_of_length_le (by simp)]
   simp
  rw [e]
  unfold putR
  rw [List.take_left, List.drop_append, List.drop_of_length_le (by simp)]
  simp
theorem apart137 : ApartRun En.P 137 := fun w a b la ca lb cb tA tB kA kB hne hsa hsb hkB hfa hfe => by
 show (callFunc 137 #[.slice (some a) la ca, .slice (some b) lb cb]).run Try.prog w = _
 rw [run_callFunc_extern Try.func137 (by kernel_rfl) (by kernel_rfl) (by kernel_rfl) (e := Extern.SlicesOverlaps.overlaps #[33, 33] #[4]) (by kernel_rfl)]
 have hr := Lib.run_overlaps_apart (P := Try.prog) w 33 4 115 (by kernel_rfl) 6 (fun w => by kernel_rfl) a b la ca lb cb hne tA tB kA kB hsa hsb hkB hfa hfe
 simp only [Sem.run_bind, hr, Result.andThen_ok, Sem.run_pure]
end Go.Proofs.Ytknnniaoboaghaa
namespace Go.V
open Go
open Go.RowKit (Below)
set_option linter.unusedVariables false
theorem Open.alias {E : Env} {f : FuncId} {args : List V} {h : Heap} {n m id off len cp : Nat} {wr : List (Nat × Option Blk)} {X : Blk}
    (H : Open E f args h n (.vcap id off len cp) wr m) (hX : app wr h id = some X) : Open E f args h n (.view m off len) (wr ++ [(id, none), (m, some X)]) (m + 1) := by
  unfold Open at H ⊢
  refine ⟨⟨H.1.1, Nat.le_succ_of_le H.1.2⟩, fun c vs hg hfr hal har => ?_⟩
  refine Calls.mono (H.2 c vs hg hfr hal har) ?_
  rintro e w' ⟨u, c', rfl, rfl, hx, hg', hd, hv⟩
  generalize hvv : V.vcap id off len cp = vv at hv
  cases hv with
  | vcap id' off' len' cp' p o hp ho hl hm =>
    cases hvv
    have hmn : c'.ρ m = none := by
      cases hq : c'.ρ m with
      | none => rfl
      | some q =>
        rcases hd m (by rw [hq]; nofun) with h1 | h1
        · exact absurd (hfr m H.1.2) h1
        · omega
    have him : id ≠ m := fun e => by rw [e, hmn] at hp; cases hp
    let c2 : Cx := { c' with ρ := upd c'.ρ m (some p) }
    have hx2 : Ext c' c2 := by
      refine ⟨rfl, fun i q hq => ?_, fun _ h => h, fun _ _ => rfl, Below.refl _ _⟩
      have : i ≠ m := fun e => by rw [e, hmn] at hq; cases hq
      show upd c'.ρ m (some p) i = some q
      rw [B8 _ _ this]; exact hq
    have hρ : ∀ i, i ≠ m → c2.ρ i = c'.ρ i := fun i hi => B8 _ _ hi
    have hρm : c2.ρ m = some p := upd_same _ _ _
    have happ : app (wr ++ [(id, none), (m, some X)]) h = upd (upd (app wr h) id none) m (some X) := by rw [I3]; rfl
    have hlive : ∀ i x, upd (upd (app wr h) id none) m (some X) i = some x → (i = m ∧ x = X) ∨ (i ≠ m ∧ i ≠ id ∧ app wr h i = some x) := by
      intro i x hi
      by_cases h1 : i = m
      · subst h1; rw [upd_same] at hi; exact .inl ⟨rfl, (Option.some.inj hi).symm⟩
      · rw [B8 _ _ h1] at hi
        by_cases h2 : i = id
        · subst h2; rw [upd_same] at hi; cases hi
        · rw [B8 _ _ h2] at hi; exact .inr ⟨h1, h2, hi⟩
    
    have hold : ∀ i x r, upd (upd (app wr h) id none) m (some X) i = some x → c2.ρ i = some r → ∃ k, app wr h k = some x ∧ c'.ρ k = some r ∧ ((i = m ∧ k = id) ∨ (i = k ∧ k ≠ id)) := by
      intro i x r hi hr
      rcases hlive i x hi with ⟨rfl, rfl⟩ | ⟨h1, h2, h3⟩
      · rw [hρm] at hr; cases hr
        exact ⟨id, hX, hp, .inl ⟨rfl, rfl⟩⟩
      · rw [hρ i h1] at hr
        exact ⟨i, h3, hr, .inr ⟨rfl, h2⟩⟩
    refine ⟨_, c2, rfl, rfl, hx.trans hx2, ?_, fun i hi => ?_, ?_⟩
    · rw [happ]
      refine ⟨fun i x hi => ?_, fun i i' x x' r r' hi hi' hr hr' he => ?_, hg'.imm, fun i x r hi hr => ?_, fun i r hr => ?_, hg'.base, fun g cs hgc => (hg'.glob g cs hgc).mono hx2⟩
      · rcases hlive i x hi with ⟨rfl, rfl⟩ | ⟨h1, h2, h3⟩
        · obtain ⟨q, g1, g2, g3⟩ := hg'.blk id _ hX
          rw [hp] at g1; obtain rfl := Option.some.inj g1
          exact ⟨_, hρm, fun hm => (g2 hm).mono hx2 rfl, fun hm => (g3 hm).mono hx2 rfl⟩
        · obtain ⟨q, g1, g2, g3⟩ := hg'.blk i x h3
          exact ⟨q, hx2.rho _ _ g1, fun hm => (g2 hm).mono hx2 rfl, fun hm => (g3 hm).mono hx2 rfl⟩
      · obtain ⟨k, a1, a2, a3⟩ := hold i x r hi hr
        obtain ⟨k', b1, b2, b3⟩ := hold i' x' r' hi' hr'
        have hk := hg'.inj k k' x x' r r' a1 b1 a2 b2 he
        rcases a3 with ⟨rfl, a4⟩ | ⟨rfl, a4⟩ <;> rcases b3 with ⟨rfl, b4⟩ | ⟨rfl, b4⟩
        · rfl
        · exact absurd (hk ▸ a4) b4
        · exact absurd (hk.trans b4) a4
        · exact hk
      · obtain ⟨k, a1, a2, _⟩ := hold i x r hi hr
        exact hg'.sep k x r a1 a2
      · by_cases h1 : i = m
        · subst h1; rw [hρm] at hr; cases hr; exact hg'.own id p hp
        · rw [hρ i h1] at hr; exact hg'.own i r hr
    · by_cases h1 : i = m
      · right; have := H.1.2; omega
      · rw [hρ i h1] at hi
        rcases hd i hi with h2 | h2
        · exact .inl h2
        · right; omega
    · exact .view m off len p o cp hρm ho hl hm
  | _ => cases hvv
theorem Open.lessW {E : Env} {f : FuncId} {args : List V} {h : Heap} {n m : Nat} {v : V} {wr wr' : List (Nat × Option Blk)} (H : Open E f args h n v wr m) (hw : ∀ i b, app wr' h i = some b → app wr h i = some b) : Open E f args h n v wr' m := by
  unfold Open at H ⊢
  refine ⟨H.1, fun c vs hg hfr hal har => ?_⟩
  refine Calls.mono (H.2 c vs hg hfr hal har) ?_
  rintro e w' ⟨u, c', h1, h2, h3, h4, h5, h6⟩
  exact ⟨u, c', h1, h2, h3, h4.less hw, h5, h6⟩
end Go.V
namespace Go.Proofs.Ytknnniaoboaghaa
open Go.V
set_option linter.unusedVariables false
set_option linter.unusedSimpArgs false
set_option maxRecDepth 20000
set_option maxHeartbeats 4000000
theorem o112i (L : List Sn) (v : Sn) (i c : Nat) (hi : i < L.length) (hc : L.length + 1 ≤ c) (hL : L.length ≤ 1000) {sb vb : Nat} {h : Heap} {n : Nat} (hs : sb < n) (hv : vb < n) (hne : vb ≠ sb) (k1 : h sb = some ⟨L.map Sn.V, 6, 115⟩) (k2 : h vb = some ⟨[v.V], 6, 115⟩) :
  V.Open En 112 [.vcap sb 0 L.length c, .int .i64 i, .view vb 0 1] h n (.vcap sb 0 (L.length + 1) c) [(sb, some ⟨(L.take i ++ v :: L.drop i).map Sn.V, 6, 115⟩)] n := by
 refine V.Open.of_wp Try.func112 rfl kb ?_
 refine A2 (A0 (Z4 j5 (A3 (A1 (A2 (A0 (Z5 j5 (B5 j5 ?_))))))))
 (apply AE j3; exact Q0; exact j3; exact Q2; exact Q2; exact Q2; exact j3)
 refine A3 (A1 (A2 (A0 (J6 j5 (G7 rfl rfl rfl j3 (D1 j5 (A3 (A1 (A2 (A2 (A0 (B5 j5 ?_))))))))))))
 refine H5 j6 (fun h => absurd h ((by show ¬ ((1 : Int) = 0); decide))) ?_
 intro h3_1
 refine A3 (A1 (wF rfl (B2 (A1 (A2 (A0 (Z5 j5 (G7 rfl rfl rfl j3 (D1 j5 (A3 (A1 (A2 ?_))))))))))))
 refine A2 (A0 (B5 j5 (B5 j5 ?_)))
 refine H5 j6 (fun h => absurd h ((by omega))) ?_
 intro h6_2
 refine A3 (A1 (wF rfl (B2 (A1 (A2 (A2 (A0 (B5 j5 (B5 j5 (D0 j3 ?_ ?_ j3 ?_))))))))))
 ·exact Q2
 ·exact Q2
 refine Z5 j5 (rcap rfl j5 ?_)
 refine V9 j6 (fun h => absurd h ((by show ¬ ((L.length : Int) + ((1 : Nat) : Int) > (c : Int)); omega))) ?_
 intro h8_5
 refine A3 (A1 (wF rfl (B2 (A1 (A2 (A0 (Z5 j5 (B5 j5 (B5 j5 (D0 j3 ?_ ?_ j3 ?_))))))))))
 ·exact Q2
 ·exact Q2
 (apply AE j3; exact Q0; exact j3; exact Q2; exact Q2; exact Q2; exact j3)
 refine raK j5 (A3 (A1 (A2 (A2 (A0 (J6 j5 (Z5 j5 (B5 j5 (B5 j5 (D0 j3 ?_ ?_ j3 ?_))))))))))
 ·exact Q2
 ·exact Q2
 (apply AE j3; exact Q0; exact j3; exact Q2; exact Q2; exact Q2; exact j3)
 (apply rapt apart137 rfl j3 hne; exact Q0; exact Q0; (show (6 : Nat) ≠ 1; decide); (show 0 < (List.map Sn.V L).length * 6; rw [List.length_map]; omega); exact j3)
 refine E1 (c := false) j5 (A3 (A1 (wT rfl (A2 (B9 [0, 0, 0, 6, 15, 0, 0, 96, 255] rfl (by decide +kernel) ?_)))))
 refine dmK j5 (I2 j5 (I2 j5 (T5 j3 ?_ ?_ j3 ?_)))
 ·exact Q2
 ·exact Q2
 (apply dslc j3; exact Q0; exact j3; exact Q2; exact Q2; exact Q2; exact j3)
 refine dmK j5 (I2 j5 ?_)
 (apply dslc j3; exact Q0; exact j3; exact Q2; exact Q2; exact Q2; exact j3)
 (apply dcpy (q := L.length - i) rfl j2; exact Q0; exact Q0; exact j3; exact Q34; exact Q2; exact Q2; rfl; exact kz; exact j3)
 refine B3 9 [3, 1, 0, 0, 1, 0, 0, 0, 0] [] j2 (by decide +kernel) trivial ?_
 refine A1 (A2 (A0 (Z5 j5 (B5 j5 ?_))))
 (apply AE j3; exact Q0; exact j3; exact Q2; exact Q2; exact Q2; exact j3)
 refine J6 j5 ?_
 (apply rcpy (q := 1) rfl j2; exact Q0; exact Q0; exact j3; exact Q34; exact Q2; exact Q2; rfl; exact kz; exact j3)
 refine A3 (A1 (A2 (A0 (Z5 j5 (raK j5 (A3 (A1 (B1 (B0 ?_)))))))))
 refine F2 rfl (show V.vcap sb (0 + Int.toNat 0) (((L.length : Int) + ((1 : Nat) : Int)).toNat - Int.toNat 0) (c - Int.toNat 0) = _ from by rw [show ((L.length : Int) + ((1 : Nat) : Int)).toNat - Int.toNat 0 = L.length + 1 by omega]; rfl) ?_ (Nat.le_refl _)
 refine K9 (fun jx hjx => ?_) (fun jx hjx hn => ?_)
 ·simp only [List.map_cons, List.map_nil, List.mem_cons, List.not_mem_nil, or_false] at hjx
  rw [hjx]
  (simp (disch := omega) only [↓appC, ↓updN, ↓updS, ↓app0])
  refine congrArg (fun z => some (Blk.mk z 6 115)) ?_
  have z0 : Int.toNat 0 = 0 := rfl
  have hs1 : 0 + Int.toNat 0 + ((i : Int) + ((1 : Nat) : Int)).toNat = i + 1 := by omega
  have hs2 : 0 + Int.toNat 0 + (i : Int).toNat = i := by omega
  have h2 : List.take (L.length - i) (List.drop (0 + Int.toNat 0 + (i : Int).toNat) (List.map Sn.V L)) = (L.drop i).map Sn.V := by
   rw [hs2, List.take_of_length_le (by simp)]; simp
  have h0 : List.map Sn.V L = (L.take i).map Sn.V ++ (L.drop i).map Sn.V := by rw [← List.map_append, List.take_append_drop]
  refine Eq.trans (congr (congr (congrArg putR (congr (congr (congrArg putR h0) hs1) h2)) hs2) rfl) ?_
  refine (insI (x := v.V) (by simp; omega)).trans ?_
  simp
 ·simp only [List.map_cons, List.map_nil, List.mem_cons, List.not_mem_nil, or_false, not_or] at hn
  (simp (disch := omega) only [↓appC, ↓updN, ↓updS, ↓app0])
open Go.V
set_option linter.unusedVariables false
set_option linter.unusedSimpArgs false
set_option maxRecDepth 20000
set_option maxHeartbeats 4000000
theorem apart150 : ApartRun En.P 150 := fun w a b la ca lb cb tA tB kA kB hne hsa hsb hkB hfa hfe => by
 show (callFunc 150 #[.slice (some a) la ca, .slice (some b) lb cb]).run Try.prog w = _
 rw [run_callFunc_extern Try.func150 (by kernel_rfl) (by kernel_rfl) (by kernel_rfl) (e := Extern.SlicesOverlaps.overlaps #[32, 32] #[4]) (by kernel_rfl)]
 have hr := Lib.run_overlaps_apart (P := Try.prog) w 32 4 29 (by kernel_rfl) 5 (fun w => by kernel_rfl) a b la ca lb cb hne tA tB kA kB hsa hsb hkB hfa hfe
 simp only [Sem.run_bind, hr, Result.andThen_ok, Sem.run_pure]
theorem o146g (R : List (List V)) (X : List V) (i c : Nat) (hi : i < R.length) (hc : R.length ≤ c) (hg : c < R.length + 1) (hL : R.length ≤ 1000) {sb vb : Nat} {h : Heap} {n : Nat} (hs : sb < n) (hv : vb < n) (hne : vb ≠ sb) (k1 : h sb = some ⟨R, 5, 29⟩) (k2 : h vb = some ⟨[X], 5, 29⟩) :
  V.Open En 146 [.vcap sb 0 R.length c, .int .i64 i, .view vb 0 1] h n (.view n 0 (R.length + 1)) [(n, some ⟨R.take i ++ X :: R.drop i, 5, 29⟩)] (n + 1) := by
 refine V.Open.of_wp Try.func146 rfl kb ?_
 refine A2 (A0 (Z4 j5 (A3 (A1 (A2 (A0 (Z5 j5 (B5 j5 ?_))))))))
 (apply AE j3; exact Q0; exact j3; exact Q2; exact Q2; exact Q2; exact j3)
 refine A3 (A1 (A2 (A0 (J6 j5 (G7 rfl rfl rfl j3 (D1 j5 (A3 (A1 (A2 (A2 (A0 (B5 j5 ?_))))))))))))
 refine H5 j6 (fun h => absurd h ((by show ¬ ((1 : Int) = 0); decide))) ?_
 intro h3_1
 refine A3 (A1 (wF rfl (B2 (A1 (A2 (A0 (Z5 j5 (G7 rfl rfl rfl j3 (D1 j5 (A3 (A1 (A2 ?_))))))))))))
 refine A2 (A0 (B5 j5 (B5 j5 ?_)))
 refine H5 j6 (fun h => absurd h ((by omega))) ?_
 intro h6_2
 refine A3 (A1 (wF rfl (B2 (A1 (A2 (A2 (A0 (B5 j5 (B5 j5 (D0 j3 ?_ ?_ j3 ?_))))))))))
 ·exact Q2
 ·exact Q2
 refine Z5 j5 (rcap rfl j5 ?_)
 refine V9 j6 ?_ (fun h => absurd ((by show ((R.length : Int) + ((1 : Nat) : Int) > (c : Int)); omega)) h)
 intro h8_5
 refine A3 (A1 (wT rfl (A2 (A0 (Z5 j5 (B5 j5 ?_))))))
 (apply AE j3; exact Q0; exact j3; exact Q2; exact Q2; exact Q2; exact j3)
 refine B5 j5 (B5 j5 (D0 j3 ?_ ?_ j3 ?_))
 ·exact Q2
 ·exact Q2
 refine B5 j5 ?_
 (refine r0 ((H6 rfl rfl rfl rfl).to (v' := .int .i64 ((R.length + 1 - i : Nat) : Int)) (by rw [G6 (by omega) (by omega)]; congr 1; omega)) rfl rfl rfl ?_)
 (apply rapm (s' := 64) rfl j2; exact Q0; rfl; exact Q2; exact j2; kernel_rfl; exact kz; exact Q2; exact Q2; exact Q2; exact Q2; exact j3)
 refine P9 j5 (A3 (A1 (A2 (A0 (J6 j5 (B5 j5 ?_))))))
 (apply rslv j3; exact Q0; exact j3; exact Q2; exact Q2; exact Q2; exact j3)
 refine J6 j5 ?_
 (apply rcpy (q := 1) rfl j2; exact Q0; exact Q0; exact j3; exact Q34; exact Q2; exact Q2; rfl; exact kz; exact j3)
 refine A3 (A1 (A2 (B9 [0, 0, 0, 6, 15, 0, 0, 96, 255] rfl (by decide +kernel) ?_)))
 refine dmV j5 (I2 j5 (I2 j5 (T5 j3 ?_ ?_ j3 ?_)))
 ·exact Q2
 ·exact Q2
 (apply dslv j3; exact Q0; exact j3; exact Q2; exact Q2; exact Q2; exact j3)
 refine dmK j5 (I2 j5 ?_)
 (apply dslc j3; exact Q0; exact j3; exact Q2; exact Q2; exact Q2; exact j3)
 (apply dcpy (q := R.length - i) rfl j2; exact Q0; exact Q0; exact j3; exact Q34; exact Q2; exact Q2; rfl; exact kz; exact j3)
 refine B3 9 [3, 1, 0, 0, 1, 0, 0, 0, 0] [] j2 (by decide +kernel) trivial ?_
 refine A1 (A2 (A0 (J6 j5 (P9 j5 (A3 (A1 (B1 (B0 ?_))))))))
 refine F2 rfl (congrArg (V.view n 0) (show _ = R.length + 1 from by first | omega | (simp; omega))) ?_ (Nat.le_refl _)
 refine K9 (fun jx hjx => ?_) (fun jx hjx hn => ?_)
 ·simp only [List.map_cons, List.map_nil, List.mem_cons, List.not_mem_nil, or_false] at hjx
  rw [hjx]
  (simp (disch := omega) only [↓appC, ↓updN, ↓updS, ↓app0])
  refine congrArg (fun z => some (Blk.mk z 5 29)) ?_
  have h1 : List.take ((i : Int).toNat - Int.toNat 0) (List.drop (0 + Int.toNat 0) R) = R.take i := by simp
  have h2 : List.take (R.length - i) (List.drop (0 + (i : Int).toNat) R) = R.drop i := by
   rw [List.take_of_length_le (by simp)]; simp
  have h3 : 0 + ((i : Int) + ((1 : Nat) : Int)).toNat = i + 1 := by omega
  have h4 : 0 + (i : Int).toNat = i := by omega
  refine Eq.trans (congr (congr (congrArg putR (congr (congr (congrArg putR (congrArg (· ++ List.replicate (R.length + 1 - i) (List.replicate 5 V.unk)) h1)) h4) rfl)) h3) h2) ?_
  refine (insR (x := X) (by simp; omega) (by simp; omega)).trans rfl
 ·simp only [List.map_cons, List.map_nil, List.mem_cons, List.not_mem_nil, or_false, not_or] at hn
  (simp (disch := omega) only [↓appC, ↓updN, ↓updS, ↓app0])
theorem o146i (R : List (List V)) (X : List V) (i c : Nat) (hi : i < R.length) (hc : R.length + 1 ≤ c) (hL : R.length ≤ 1000) {sb vb : Nat} {h : Heap} {n : Nat} (hs : sb < n) (hv : vb < n) (hne : vb ≠ sb) (k1 : h sb = some ⟨R, 5, 29⟩) (k2 : h vb = some ⟨[X], 5, 29⟩) :
  V.Open En 146 [.vcap sb 0 R.length c, .int .i64 i, .view vb 0 1] h n (.vcap sb 0 (R.length + 1) c) [(sb, some ⟨R.take i ++ X :: R.drop i, 5, 29⟩)] n := by
 refine V.Open.of_wp Try.func146 rfl kb ?_
 refine A2 (A0 (Z4 j5 (A3 (A1 (A2 (A0 (Z5 j5 (B5 j5 ?_))))))))
 (apply AE j3; exact Q0; exact j3; exact Q2; exact Q2; exact Q2; exact j3)
 refine A3 (A1 (A2 (A0 (J6 j5 (G7 rfl rfl rfl j3 (D1 j5 (A3 (A1 (A2 (A2 (A0 (B5 j5 ?_))))))))))))
 refine H5 j6 (fun h => absurd h ((by show ¬ ((1 : Int) = 0); decide))) ?_
 intro h3_1
 refine A3 (A1 (wF rfl (B2 (A1 (A2 (A0 (Z5 j5 (G7 rfl rfl rfl j3 (D1 j5 (A3 (A1 (A2 ?_))))))))))))
 refine A2 (A0 (B5 j5 (B5 j5 ?_)))
 refine H5 j6 (fun h => absurd h ((by omega))) ?_
 intro h6_2
 refine A3 (A1 (wF rfl (B2 (A1 (A2 (A2 (A0 (B5 j5 (B5 j5 (D0 j3 ?_ ?_ j3 ?_))))))))))
 ·exact Q2
 ·exact Q2
 refine Z5 j5 (rcap rfl j5 ?_)
 refine V9 j6 (fun h => absurd h ((by show ¬ ((R.length : Int) + ((1 : Nat) : Int) > (c : Int)); omega))) ?_
 intro h8_5
 refine A3 (A1 (wF rfl (B2 (A1 (A2 (A0 (Z5 j5 (B5 j5 (B5 j5 (D0 j3 ?_ ?_ j3 ?_))))))))))
 ·exact Q2
 ·exact Q2
 (apply AE j3; exact Q0; exact j3; exact Q2; exact Q2; exact Q2; exact j3)
 refine raK j5 (A3 (A1 (A2 (A2 (A0 (J6 j5 (Z5 j5 (B5 j5 (B5 j5 (D0 j3 ?_ ?_ j3 ?_))))))))))
 ·exact Q2
 ·exact Q2
 (apply AE j3; exact Q0; exact j3; exact Q2; exact Q2; exact Q2; exact j3)
 (apply rapt apart150 rfl j3 hne; exact Q0; exact Q0; (show (5 : Nat) ≠ 1; decide); (show 0 < R.length * 5; omega); exact j3)
 refine E1 (c := false) j5 (A3 (A1 (wT rfl (A2 (B9 [0, 0, 0, 6, 15, 0, 0, 96, 255] rfl (by decide +kernel) ?_)))))
 refine dmK j5 (I2 j5 (I2 j5 (T5 j3 ?_ ?_ j3 ?_)))
 ·exact Q2
 ·exact Q2
 (apply dslc j3; exact Q0; exact j3; exact Q2; exact Q2; exact Q2; exact j3)
 refine dmK j5 (I2 j5 ?_)
 (apply dslc j3; exact Q0; exact j3; exact Q2; exact Q2; exact Q2; exact j3)
 (apply dcpy (q := R.length - i) rfl j2; exact Q0; exact Q0; exact j3; exact Q34; exact Q2; exact Q2; rfl; exact kz; exact j3)
 refine B3 9 [3, 1, 0, 0, 1, 0, 0, 0, 0] [] j2 (by decide +kernel) trivial ?_
 refine A1 (A2 (A0 (Z5 j5 (B5 j5 ?_))))
 (apply AE j3; exact Q0; exact j3; exact Q2; exact Q2; exact Q2; exact j3)
 refine J6 j5 ?_
 (apply rcpy (q := 1) rfl j2; exact Q0; exact Q0; exact j3; exact Q34; exact Q2; exact Q2; rfl; exact kz; exact j3)
 refine A3 (A1 (A2 (A0 (Z5 j5 (raK j5 (A3 (A1 (B1 (B0 ?_)))))))))
 refine F2 rfl (show V.vcap sb (0 + Int.toNat 0) (((R.length : Int) + ((1 : Nat) : Int)).toNat - Int.toNat 0) (c - Int.toNat 0) = _ from by rw [show ((R.length : Int) + ((1 : Nat) : Int)).toNat - Int.toNat 0 = R.length + 1 by omega]; rfl) ?_ (Nat.le_refl _)
 refine K9 (fun jx hjx => ?_) (fun jx hjx hn => ?_)
 ·simp only [List.map_cons, List.map_nil, List.mem_cons, List.not_mem_nil, or_false] at hjx
  rw [hjx]
  (simp (disch := omega) only [↓appC, ↓updN, ↓updS, ↓app0])
  refine congrArg (fun z => some (Blk.mk z 5 29)) ?_
  have z0 : Int.toNat 0 = 0 := rfl
  have hs1 : 0 + Int.toNat 0 + ((i : Int) + ((1 : Nat) : Int)).toNat = i + 1 := by omega
  have hs2 : 0 + Int.toNat 0 + (i : Int).toNat = i := by omega
  have h2 : List.take (R.length - i) (List.drop (0 + Int.toNat 0 + (i : Int).toNat) R) = R.drop i := by
   rw [hs2, List.take_of_length_le (by simp)]
  have h0 : R = R.take i ++ R.drop i := (List.take_append_drop i R).symm
  refine Eq.trans (congr (congr (congrArg putR (congr (congr (congrArg putR h0) hs1) h2)) hs2) rfl) ?_
  refine (insI (x := X) (by simp; omega)).trans rfl
 ·simp only [List.map_cons, List.map_nil, List.mem_cons, List.not_mem_nil, or_false, not_or] at hn
  (simp (disch := omega) only [↓appC, ↓updN, ↓updS, ↓app0])
theorem o146m (R : List (List V)) (X : List V) (i : Nat) (hi : i < R.length) (hL : R.length ≤ 1000) {sb vb : Nat} {h : Heap} {n : Nat} (hs : sb < n) (hv : vb < n) (hne : vb ≠ sb) (k1 : h sb = some ⟨R, 5, 29⟩) (k2 : h vb = some ⟨[X], 5, 29⟩) :
  V.Open En 146 [.view sb 0 R.length, .int .i64 i, .view vb 0 1] h n (.view n 0 (R.length + 1)) [(sb, none), (n, some ⟨R.take i ++ X :: R.drop i, 5, 29⟩)] (n + 1) := by
 refine @V.Open.byCap _ _ [] [.int .i64 i, .view vb 0 1] _ _ _ _ _ _ _ _ (fun c hc => ?_)
 by_cases hg : c < R.length + 1
 ·refine V.Open.lessW (o146g R X i c hi hc hg hL hs hv hne k1 k2) (fun k b hb => ?_)
  simp only [app] at hb ⊢
  by_cases h1 : k = n
  ·subst h1; rw [upd_same] at hb ⊢; exact hb
  ·rw [B8 _ _ h1] at hb ⊢
   by_cases h2 : k = sb
   ·subst h2; rw [upd_same] at hb; cases hb
   ·rw [B8 _ _ h2] at hb; exact hb
 ·refine V.Open.lessW (V.Open.alias (o146i R X i c hi (by omega) hL hs hv hne k1 k2) (by simp only [app]; exact upd_same _ _ _)) (fun k b hb => ?_)
  simp only [app, List.cons_append, List.nil_append] at hb ⊢
  by_cases h1 : k = n
  ·subst h1; rw [upd_same] at hb ⊢; exact hb
  ·rw [B8 _ _ h1] at hb ⊢
   by_cases h2 : k = sb
   ·subst h2; rw [upd_same] at hb; cases hb
   ·rw [B8 _ _ h2] at hb ⊢; rw [B8 _ _ h2]; exact hb
open Go.V
set_option linter.unusedVariables false
set_option linter.unusedSimpArgs false
set_option maxRecDepth 20000
set_option maxHeartbeats 4000000
theorem o112g (L : List Sn) (v : Sn) (i c : Nat) (hi : i < L.length) (hc : L.length ≤ c) (hg : c < L.length + 1) (hL : L.length ≤ 1000) {sb vb : Nat} {h : Heap} {n : Nat} (hs : sb < n) (hv : vb < n) (hne : vb ≠ sb) (k1 : h sb = some ⟨L.map Sn.V, 6, 115⟩) (k2 : h vb = some ⟨[v.V], 6, 115⟩) :
  V.Open En 112 [.vcap sb 0 L.length c, .int .i64 i, .view vb 0 1] h n (.view n 0 (L.length + 1)) [(n, some ⟨(L.take i ++ v :: L.drop i).map Sn.V, 6, 115⟩)] (n + 1) := by
 refine V.Open.of_wp Try.func112 rfl kb ?_
 refine A2 (A0 (Z4 j5 (A3 (A1 (A2 (A0 (Z5 j5 (B5 j5 ?_))))))))
 (apply AE j3; exact Q0; exact j3; exact Q2; exact Q2; exact Q2; exact j3)
 refine A3 (A1 (A2 (A0 (J6 j5 (G7 rfl rfl rfl j3 (D1 j5 (A3 (A1 (A2 (A2 (A0 (B5 j5 ?_))))))))))))
 refine H5 j6 (fun h => absurd h ((by show ¬ ((1 : Int) = 0); decide))) ?_
 intro h3_1
 refine A3 (A1 (wF rfl (B2 (A1 (A2 (A0 (Z5 j5 (G7 rfl rfl rfl j3 (D1 j5 (A3 (A1 (A2 ?_))))))))))))
 refine A2 (A0 (B5 j5 (B5 j5 ?_)))
 refine H5 j6 (fun h => absurd h ((by omega))) ?_
 intro h6_2
 refine A3 (A1 (wF rfl (B2 (A1 (A2 (A2 (A0 (B5 j5 (B5 j5 (D0 j3 ?_ ?_ j3 ?_))))))))))
 ·exact Q2
 ·exact Q2
 refine Z5 j5 (rcap rfl j5 ?_)
 refine V9 j6 ?_ (fun h => absurd ((by show ((L.length : Int) + ((1 : Nat) : Int) > (c : Int)); omega)) h)
 intro h8_5
 refine A3 (A1 (wT rfl (A2 (A0 (Z5 j5 (B5 j5 ?_))))))
 (apply AE j3; exact Q0; exact j3; exact Q2; exact Q2; exact Q2; exact j3)
 refine B5 j5 (B5 j5 (D0 j3 ?_ ?_ j3 ?_))
 ·exact Q2
 ·exact Q2
 refine B5 j5 ?_
 (refine r0 ((H6 rfl rfl rfl rfl).to (v' := .int .i64 ((L.length + 1 - i : Nat) : Int)) (by rw [G6 (by omega) (by omega)]; congr 1; omega)) rfl rfl rfl ?_)
 (apply rapm (s' := 48) rfl j2; exact Q0; rfl; exact Q2; exact j2; kernel_rfl; exact kz; exact Q2; exact Q2; exact Q2; exact Q2; exact j3)
 refine P9 j5 (A3 (A1 (A2 (A0 (J6 j5 (B5 j5 ?_))))))
 (apply rslv j3; exact Q0; exact j3; exact Q2; exact Q2; exact Q2; exact j3)
 refine J6 j5 ?_
 (apply rcpy (q := 1) rfl j2; exact Q0; exact Q0; exact j3; exact Q34; exact Q2; exact Q2; rfl; exact kz; exact j3)
 refine A3 (A1 (A2 (B9 [0, 0, 0, 6, 15, 0, 0, 96, 255] rfl (by decide +kernel) ?_)))
 refine dmV j5 (I2 j5 (I2 j5 (T5 j3 ?_ ?_ j3 ?_)))
 ·exact Q2
 ·exact Q2
 (apply dslv j3; exact Q0; exact j3; exact Q2; exact Q2; exact Q2; exact j3)
 refine dmK j5 (I2 j5 ?_)
 (apply dslc j3; exact Q0; exact j3; exact Q2; exact Q2; exact Q2; exact j3)
 (apply dcpy (q := L.length - i) rfl j2; exact Q0; exact Q0; exact j3; exact Q34; exact Q2; exact Q2; rfl; exact kz; exact j3)
 refine B3 9 [3, 1, 0, 0, 1, 0, 0, 0, 0] [] j2 (by decide +kernel) trivial ?_
 refine A1 (A2 (A0 (J6 j5 (P9 j5 (A3 (A1 (B1 (B0 ?_))))))))
 refine F2 rfl (congrArg (V.view n 0) (show _ = L.length + 1 from by first | omega | (simp; omega))) ?_ (Nat.le_refl _)
 refine K9 (fun jx hjx => ?_) (fun jx hjx hn => ?_)
 ·simp only [List.map_cons, List.map_nil, List.mem_cons, List.not_mem_nil, or_false] at hjx
  rw [hjx]
  (simp (disch := omega) only [↓appC, ↓updN, ↓updS, ↓app0])
  refine congrArg (fun z => some (Blk.mk z 6 115)) ?_
  have h1 : List.take ((i : Int).toNat - Int.toNat 0) (List.drop (0 + Int.toNat 0) (List.map Sn.V L)) = (L.take i).map Sn.V := by simp
  have h2 : List.take (L.length - i) (List.drop (0 + (i : Int).toNat) (List.map Sn.V L)) = (L.drop i).map Sn.V := by
   rw [List.take_of_length_le (by simp)]; simp
  have h3 : 0 + ((i : Int) + ((1 : Nat) : Int)).toNat = i + 1 := by omega
  have h4 : 0 + (i : Int).toNat = i := by omega
  refine Eq.trans (congr (congr (congrArg putR (congr (congr (congrArg putR (congrArg (· ++ List.replicate (L.length + 1 - i) (List.replicate 6 V.unk)) h1)) h4) rfl)) h3) h2) ?_
  refine (insR (x := v.V) (by simp; omega) (by simp; omega)).trans ?_
  simp
 ·simp only [List.map_cons, List.map_nil, List.mem_cons, List.not_mem_nil, or_false, not_or] at hn
  (simp (disch := omega) only [↓appC, ↓updN, ↓updS, ↓app0])
theorem o112m (L : List Sn) (v : Sn) (i : Nat) (hi : i < L.length) (hL : L.length ≤ 1000) {sb vb : Nat} {h : Heap} {n : Nat} (hs : sb < n) (hv : vb < n) (hne : vb ≠ sb) (k1 : h sb = some ⟨L.map Sn.V, 6, 115⟩) (k2 : h vb = some ⟨[v.V], 6, 115⟩) :
  V.Open En 112 [.view sb 0 L.length, .int .i64 i, .view vb 0 1] h n (.view n 0 (L.length + 1)) [(sb, none), (n, some ⟨(L.take i ++ v :: L.drop i).map Sn.V, 6, 115⟩)] (n + 1) := by
 refine @V.Open.byCap _ _ [] [.int .i64 i, .view vb 0 1] _ _ _ _ _ _ _ _ (fun c hc => ?_)
 by_cases hg : c < L.length + 1
 ·refine V.Open.lessW (o112g L v i c hi hc hg hL hs hv hne k1 k2) (fun k b hb => ?_)
  simp only [app] at hb ⊢
  by_cases h1 : k = n
  ·subst h1; rw [upd_same] at hb ⊢; exact hb
  ·rw [B8 _ _ h1] at hb ⊢
   by_cases h2 : k = sb
   ·subst h2; rw [upd_same] at hb; cases hb
   ·rw [B8 _ _ h2] at hb; exact hb
 ·refine V.Open.lessW (V.Open.alias (o112i L v i c hi (by omega) hL hs hv hne k1 k2) (by simp only [app]; exact upd_same _ _ _)) (fun k b hb => ?_)
  simp only [app, List.cons_append, List.nil_append] at hb ⊢
  by_cases h1 : k = n
  ·subst h1; rw [upd_same] at hb ⊢; exact hb
  ·rw [B8 _ _ h1] at hb ⊢
   by_cases h2 : k = sb
   ·subst h2; rw [upd_same] at hb; cases hb
   ·rw [B8 _ _ h2] at hb ⊢; rw [B8 _ _ h2]; exact hb
end Go.Proofs.Ytknnniaoboaghaa
namespace Go.V
open Go
open Go.RowKit (Below)
set_option linter.unusedVariables false
def Ch (h g : Heap) : Prop := ∃ wr, g = app wr h
theorem Ch.refl (h : Heap) : Ch h h := ⟨[], rfl⟩
theorem Ch.upd {h g : Heap} {i : Nat} {b : Option Blk} (c : Ch h g) : Ch h (upd g i b) := by
  obtain ⟨wr, rfl⟩ := c
  exact ⟨wr ++ [(i, b)], by rw [I3]; rfl⟩
theorem Ch.app {h g : Heap} {wr : List (Nat × Option Blk)} (c : Ch h g) : Ch h (app wr g) := by
  obtain ⟨w0, rfl⟩ := c
  exact ⟨w0 ++ wr, by rw [I3]⟩
theorem Ch.trans {a b c : Heap} (x : Ch a b) (y : Ch b c) : Ch a c := by
  obtain ⟨w, rfl⟩ := y
  exact x.app
abbrev MV := V × List (Nat × Option Blk) × Nat
def OpenM (E : Env) (f : FuncId) (args : List V) (h : Heap) (n : Nat) (Φ : V → Heap → Nat → Prop) : Prop :=
  ∃ a : MV, Φ a.1 (app a.2.1 h) a.2.2 ∧ Open E f args h n a.1 a.2.1 a.2.2
def FinM (E : Env) (fn : Func) (h : Heap) (n0 : Nat) (Φ : V → Heap → Nat → Prop) (x : Ex) (t' : Nat → V) (h' : Heap) (n' : Nat) : Prop := ∃ a : MV, Φ a.1 (app a.2.1 h) a.2.2 ∧ OpenFin E fn a.1 h n0 a.2.1 a.2.2 x t' h' n'
theorem OpenM.of_wp {E : Env} {f : FuncId} {fn : Func} {k : Code} {args : List V} {h : Heap} {n : Nat} {Φ : V → Heap → Nat → Prop} (hf : E.P.funcs[f]? = some fn) (hb : fn.body = some k) (hn : args.length ≤ fn.ntmps)
    (w : WP E fn.ntmps k (fun i => (args[i]?).getD .unk) h n (FinM E fn h n Φ)) (hnm : (fn.name != "runtime.NumGoroutine") = true := by rfl) : OpenM E f args h n Φ :=
  Open.of_wpX (v := fun a : MV => a.1) (wr := fun a => a.2.1) (m := fun a => a.2.2) hf hb hn w hnm
theorem E0 {E : Env} {fn : Func} {h h' : Heap} {n0 n' : Nat} {x : Ex} {t' : Nat → V} {xs : List V} {Φ : V → Heap → Nat → Prop} (hr : resL E.P t' h' fn.results.toList = some xs) (hc : Ch h h')
    (hΦ : Φ (retX xs) h' n') (hx : x = .norm ∨ x = .ret := by first | exact .inl rfl | exact .inr rfl) : FinM E fn h n0 Φ x t' h' n' := by
  obtain ⟨wr, rfl⟩ := hc
  exact ⟨(retX xs, wr, n'), hΦ, F2 hr rfl (fun _ _ _ e => e) (Nat.le_refl _) hx⟩
attribute [irreducible] FinM
theorem Open.toM {E : Env} {f : FuncId} {args : List V} {h : Heap} {n : Nat} {v : V} {wr : List (Nat × Option Blk)} {m : Nat} {Φ : V → Heap → Nat → Prop} (H : Open E f args h n v wr m) (hΦ : Φ v (app wr h) m) : OpenM E f args h n Φ := ⟨(v, wr, m), hΦ, H⟩
theorem OpenM.mono {E : Env} {f : FuncId} {args : List V} {h : Heap} {n : Nat} {Φ Ψ : V → Heap → Nat → Prop} (H : OpenM E f args h n Φ) (k : ∀ v g m, n ≤ m → Φ v g m → Ψ v g m) : OpenM E f args h n Ψ := by
  obtain ⟨a, h1, h2⟩ := H
  exact ⟨a, k _ _ _ h2.le h1, h2⟩
theorem Open.weakN {E : Env} {f : FuncId} {args : List V} {h : Heap} {n m m' : Nat} {v : V} {wr : List (Nat × Option Blk)} (H : Open E f args h n v wr m) (hm : m ≤ m') : Open E f args h n v wr m' := by
  unfold Open at H ⊢
  refine ⟨⟨H.1.1, Nat.le_trans H.1.2 hm⟩, fun c vs hg hfr hal har => ?_⟩
  refine Calls.mono (H.2 c vs hg hfr hal har) ?_
  rintro e w' ⟨u, c', h1, h2, h3, h4, h5, h6⟩
  exact ⟨u, c', h1, h2, h3, h4, fun id hid => (h5 id hid).imp (fun x => x) (fun x => ⟨x.1, by omega⟩), h6⟩
theorem Z2 {E : Env} {sz : Nat} {k : Code} {t : Nat → V} {h : Heap} {n : Nat} {Q : Post} (w : ∀ g, g = h → WP E sz k t g n Q) : WP E sz k t h n Q := w h rfl
section rules
variable {E : Env} {sz : Nat} {ops : Array Oper} {o : Oper} {l : List Oper} {t : Nat → V} {h : Heap} {n : Nat} {R : (Nat → V) → Heap → Nat → Prop} {z : Operand}
theorem L4 {tys : Array TypeId} {f : FuncId} {args : Array Operand} {caps vs : List V} {Φ : V → Heap → Nat → Prop} (hop : OpenM E f vs h n Φ) (ho : o.op = .call { callee := .value z, args := args, argTypes := tys }) {d : Nat} (G0 : E.eval t z = .clo f caps ∧ args.toList.map (E.eval t) ++ caps = vs ∧ o.dst = some d ∧ Nat.blt d sz = true ∧ guardV ops t o = some true)
    (w : ∀ v g m, Φ v g m → Ch h g → n ≤ m → WR E sz ops l (upd t d v) g m R) : WR E sz ops (o :: l) t h n R := by
  obtain ⟨hc, hv, hdd, hd, hg⟩ := G0
  obtain ⟨a, h1, h2⟩ := hop
  exact I7 h2 ho hc hv hdd hd hg (w _ _ _ h1 ⟨_, rfl⟩ h2.le)
end rules
end Go.V
namespace Go.Proofs.Ytknnniaoboaghaa
open Go.V
set_option linter.unusedVariables false
set_option linter.unusedSimpArgs false
set_option maxRecDepth 20000
set_option maxHeartbeats 4000000
def fpV : V → Option Nat
 | .view id _ _ => some id
 | _ => none
def IsL (h : Heap) (v : V) (rows : List (List V)) (sz ty : Nat) : Prop := (v = .nsl ∧ rows = []) ∨ ∃ (id : Nat) (pre : List (List V)), v = .view id pre.length rows.length ∧ h id = some ⟨pre ++ rows, sz, ty⟩
def IsZ (h : Heap) (v : V) (rows : List (List V)) (sz ty : Nat) : Prop := (v = .nsl ∧ rows = []) ∨ ∃ id : Nat, v = .view id 0 rows.length ∧ h id = some ⟨rows, sz, ty⟩
theorem IsL.cell {h : Heap} {v : V} {rows : List (List V)} {sz ty : Nat} (k : IsL h v rows sz ty) : v.cell = true := by
 rcases k with ⟨rfl, _⟩ | ⟨id, pre, rfl, _⟩ <;> rfl
theorem IsZ.cell {h : Heap} {v : V} {rows : List (List V)} {sz ty : Nat} (k : IsZ h v rows sz ty) : v.cell = true := by
 rcases k with ⟨rfl, _⟩ | ⟨id, rfl, _⟩ <;> rfl
theorem IsL.mono {h g : Heap} {v : V} {rows : List (List V)} {sz ty : Nat} (k : IsL h v rows sz ty) (e : ∀ a, fpV v = some a → g a = h a) : IsL g v rows sz ty := by
 rcases k with ⟨rfl, k⟩ | ⟨id, pre, rfl, k⟩
 ·exact .inl ⟨rfl, k⟩
 ·exact .inr ⟨id, pre, rfl, (e id rfl).trans k⟩
theorem IsZ.mono {h g : Heap} {v : V} {rows : List (List V)} {sz ty : Nat} (k : IsZ h v rows sz ty) (e : ∀ a, fpV v = some a → g a = h a) : IsZ g v rows sz ty := by
 rcases k with ⟨rfl, k⟩ | ⟨id, rfl, k⟩
 ·exact .inl ⟨rfl, k⟩
 ·exact .inr ⟨id, rfl, (e id rfl).trans k⟩
theorem IsZ.some {h : Heap} {v : V} {rows : List (List V)} {sz ty : Nat} (k : IsZ h v rows sz ty) (hn : 0 < rows.length) : ∃ id : Nat, v = .view id 0 rows.length ∧ h id = some ⟨rows, sz, ty⟩ := by
 rcases k with ⟨_, rfl⟩ | k
 ·exact absurd hn (Nat.lt_irrefl 0)
 ·exact k
theorem D7 {h : Heap} {ids : List Nat} {r : Bool} {v : V} {L : List Wt} (k : IsL h v (L.map wtV) 2 123) (hid : ∀ a, fpV v = some a → a ∈ ids) : Snap h ids r v (.sl false (L.map wtT)) := by
 rcases k with ⟨rfl, k⟩ | ⟨id, pre, rfl, k⟩
 ·have : L = [] := List.map_eq_nil_iff.1 k
  subst this; exact .nslW
 ·exact .weak _ _ (snapWsP (hid id rfl) k rfl (by simp))
def rwW (L : List Lk) (W : Nat → V) : List (List V) := (List.range L.length).map fun i => (L.getD i Lk0).V (W i)
theorem B6 (L : List Lk) (W : Nat → V) : (rwW L W).length = L.length := by simp [rwW]
theorem G5 {L : List Lk} {W : Nat → V} {i : Nat} (h : i < L.length) : (rwW L W)[i]? = some ((L.getD i Lk0).V (W i)) := by simp [rwW, h]
theorem BX {L : List Lk} {k i : Nat} {l : Lk} (h : k < L.length) : (L.set k l).getD i Lk0 = if i = k then l else L.getD i Lk0 := by
 rw [List.getD_eq_getElem?_getD, List.getD_eq_getElem?_getD, List.getElem?_set]
 by_cases e : k = i
 ·subst e; simp [h]
 ·rw [if_neg e, if_neg (Ne.symm e)]
theorem rwW_set {L : List Lk} {W : Nat → V} {k : Nat} {l : Lk} {w : V} (h : k < L.length) : (rwW L W).set k (l.V w) = rwW (L.set k l) (fun i => if i = k then w else W i) := by
 apply List.ext_getElem?
 intro j
 rw [List.getElem?_set, B6]
 by_cases hj : j < L.length
 ·rw [G5 (L := L.set k l) (by rw [List.length_set]; exact hj), BX h]
  by_cases e : k = j
  ·subst e; simp [h]
  ·rw [if_neg e, if_neg (Ne.symm e), if_neg (Ne.symm e), G5 hj]
 ·rw [List.getElem?_eq_none (l := rwW (L.set k l) _) (by rw [B6, List.length_set]; omega)]
  by_cases e : k = j
  ·omega
  ·rw [if_neg e, List.getElem?_eq_none (by rw [B6]; omega)]
def insW (W : Nat → V) (k : Nat) (w : V) (i : Nat) : V := if i < k then W i else if i = k then w else W (i - 1)
def insL {α : Type} (L : List α) (k : Nat) (l : α) : List α := L.take k ++ l :: L.drop k
theorem J0 {α : Type} {L : List α} {k : Nat} {l : α} (h : k ≤ L.length) : (insL L k l).length = L.length + 1 := by simp [insL]; omega
theorem Z3 {α : Type} {L : List α} {k : Nat} {l d : α} (h : k ≤ L.length) (i : Nat) : (insL L k l).getD i d = if i < k then L.getD i d else if i = k then l else L.getD (i - 1) d := by
 unfold insL
 have e : (L.take k).length = k := by simp; omega
 by_cases h1 : i < k
 ·rw [if_pos h1, List.getD_eq_getElem?_getD, List.getElem?_append_left (by omega), List.getElem?_take_of_lt h1, List.getD_eq_getElem?_getD]
 ·rw [if_neg h1, List.getD_eq_getElem?_getD, List.getElem?_append_right (by omega), e]
  by_cases h2 : i = k
  ·subst h2; simp
  ·rw [if_neg h2, show i - k = (i - 1 - k) + 1 by omega, List.getElem?_cons_succ, List.getElem?_drop, List.getD_eq_getElem?_getD]
   congr 2; omega
theorem BY {α β : Type} (f : α → β) (L : List α) (k : Nat) (l : α) : (insL L k l).map f = (L.map f).take k ++ f l :: (L.map f).drop k := by simp [insL, List.map_take, List.map_drop]
theorem rwW_ins {L : List Lk} {W : Nat → V} {k : Nat} {l : Lk} {w : V} (h : k ≤ L.length) : (rwW L W).take k ++ l.V w :: (rwW L W).drop k = rwW (insL L k l) (insW W k w) := by
 apply List.ext_getElem?
 intro j
 have e : ((rwW L W).take k).length = k := by rw [List.length_take, B6]; omega
 by_cases hj : j < L.length + 1
 ·rw [G5 (L := insL L k l) (by rw [J0 h]; exact hj), Z3 h]
  unfold insW
  by_cases h1 : j < k
  ·rw [List.getElem?_append_left (by omega), List.getElem?_take_of_lt h1, G5 (by omega), if_pos h1, if_pos h1]
  ·rw [List.getElem?_append_right (by omega), e, if_neg h1, if_neg h1]
   by_cases h2 : j = k
   ·subst h2; simp
   ·rw [if_neg h2, if_neg h2, show j - k = (j - 1 - k) + 1 by omega, List.getElem?_cons_succ, List.getElem?_drop, G5 (by omega)]
    congr 3 <;> omega
 ·rw [List.getElem?_eq_none (l := rwW (insL L k l) _) (by rw [B6, J0 h]; omega), List.getElem?_eq_none (by simp [B6]; omega)]
def OwnT (id : Nat) (Sl Ss : V) (W : Nat → V) (k : Nat) (a : Nat) : Prop := a = id ∨ fpV Sl = some a ∨ fpV Ss = some a ∨ ∃ i, i < k ∧ fpV (W i) = some a
structure TabM (t : Tb) (id : Nat) (Sl Ss : V) (W : Nat → V) (h : Heap) (n : Nat) : Prop where
 idn : id < n
 kid : h id = some ⟨[[.int .i64 t.tm, .int .i64 t.nx, Sl, Ss]], 4, 35⟩
 kl : IsZ h Sl (rwW t.lk W) 5 29
 ks : IsZ h Ss (t.sn.map Sn.V) 6 115
 kw : ∀ i, i < t.lk.length → IsL h (W i) ((t.lk.getD i Lk0).ws.map wtV) 2 123
 fl : ∀ a, fpV Sl = some a → a < n ∧ a ≠ id
 fs : ∀ a, fpV Ss = some a → a < n ∧ a ≠ id ∧ fpV Sl ≠ some a
 fw : ∀ i a, i < t.lk.length → fpV (W i) = some a → a < n ∧ a ≠ id ∧ fpV Sl ≠ some a ∧ fpV Ss ≠ some a ∧ ∀ j, j < t.lk.length → j ≠ i → fpV (W j) ≠ some a
theorem TabM.lt {t : Tb} {id : Nat} {Sl Ss : V} {W : Nat → V} {h : Heap} {n : Nat} (T : TabM t id Sl Ss W h n) {a : Nat} (o : OwnT id Sl Ss W t.lk.length a) : a < n := by
 rcases o with rfl | o | o | ⟨i, hi, o⟩
 ·exact T.idn
 ·exact (T.fl a o).1
 ·exact (T.fs a o).1
 ·exact (T.fw i a hi o).1
theorem TabM.keep {t : Tb} {id : Nat} {Sl Ss : V} {W : Nat → V} {h g : Heap} {n m : Nat} (T : TabM t id Sl Ss W h n) (hm : n ≤ m) (e : ∀ a, OwnT id Sl Ss W t.lk.length a → g a = h a) : TabM t id Sl Ss W g m :=
 ⟨by have := T.idn; omega, (e id (.inl rfl)).trans T.kid, T.kl.mono fun a h => e a (.inr (.inl h)), T.ks.mono fun a h => e a (.inr (.inr (.inl h))), fun i hi => (T.kw i hi).mono fun a h => e a (.inr (.inr (.inr ⟨i, hi, h⟩))),
  fun a h => ⟨by have := (T.fl a h).1; omega, (T.fl a h).2⟩, fun a h => ⟨by have := (T.fs a h).1; omega, (T.fs a h).2⟩, fun i a hi h => ⟨by have := (T.fw i a hi h).1; omega, (T.fw i a hi h).2⟩⟩
theorem TabM.ext {t : Tb} {id : Nat} {Sl Ss : V} {W : Nat → V} {h g : Heap} {n m : Nat} (T : TabM t id Sl Ss W h n) (hm : n ≤ m) (e : ∀ a, a < n → g a = h a) : TabM t id Sl Ss W g m := T.keep hm fun a o => e a (T.lt o)
theorem TabM.setLk {t : Tb} {id : Nat} {Sl Ss : V} {W : Nat → V} {h g : Heap} {n m : Nat} (T : TabM t id Sl Ss W h n) {k : Nat} (hk : k < t.lk.length) {lb len : Nat} (hSl : Sl = .view lb 0 len) (l : Lk) (w : V) (tm nx : Int) (hnm : n ≤ m)
  (g1 : g id = some ⟨[[.int .i64 tm, .int .i64 nx, Sl, Ss]], 4, 35⟩) (g2 : g lb = some ⟨(rwW t.lk W).set k (l.V w), 5, 29⟩) (g3 : IsL g w (l.ws.map wtV) 2 123) (g4 : ∀ a, fpV w = some a → a < m ∧ (fpV (W k) = some a ∨ n ≤ a))
  (g5 : ∀ a, OwnT id Sl Ss W t.lk.length a → a ≠ id → a ≠ lb → fpV (W k) ≠ some a → g a = h a) : TabM ⟨tm, nx, t.lk.set k l, t.sn⟩ id Sl Ss (fun i => if i = k then w else W i) g m := by
 have fSl : fpV Sl = some lb := by rw [hSl]; rfl
 have hlb := T.fl lb fSl
 have hlen : (t.lk.set k l).length = t.lk.length := List.length_set
 refine ⟨by have := T.idn; omega, g1, ?_, T.ks.mono fun a ha => ?_, fun i hi => ?_, fun a ha => ⟨by have := (T.fl a ha).1; omega, (T.fl a ha).2⟩, fun a ha => ⟨by have := (T.fs a ha).1; omega, (T.fs a ha).2⟩, fun i a hi ha => ?_⟩
 ·show IsZ g Sl (rwW (t.lk.set k l) _) 5 29
  rw [← rwW_set hk]
  refine .inr ⟨lb, ?_, g2⟩
  rcases T.kl with ⟨e, _⟩ | ⟨lb', e, _⟩
  ·rw [e] at hSl; cases hSl
  ·rw [List.length_set]; rw [hSl] at e; cases e; exact hSl
 ·have := T.fs a ha
  refine g5 a (.inr (.inr (.inl ha))) this.2.1 (fun e => this.2.2 (by rw [e]; exact fSl)) (fun e => ?_)
  exact (T.fw k a hk e).2.2.2.1 ha
 ·have hi' : i < t.lk.length := by rw [← hlen]; exact hi
  show IsL g _ (((t.lk.set k l).getD i Lk0).ws.map wtV) 2 123
  rw [BX hk]
  by_cases e : i = k
  ·rw [if_pos e, if_pos e]; exact g3
  ·rw [if_neg e, if_neg e]
   refine (T.kw i hi').mono fun a ha => ?_
   have q := T.fw i a hi' ha
   exact g5 a (.inr (.inr (.inr ⟨i, hi', ha⟩))) q.2.1 (fun e => q.2.2.1 (by rw [e]; exact fSl)) (q.2.2.2.2 k hk (Ne.symm e))
 ·have hi' : i < t.lk.length := by rw [← hlen]; exact hi
  show a < m ∧ a ≠ id ∧ fpV Sl ≠ some a ∧ fpV Ss ≠ some a ∧ ∀ j, j < (t.lk.set k l).length → _
  rw [hlen]
  (try dsimp only at ha ⊢)
  by_cases e : i = k
  ·rw [if_pos e] at ha
   have q := g4 a ha
   rcases q.2 with q2 | q2
   ·have q3 := T.fw k a hk q2
    exact ⟨q.1, q3.2.1, q3.2.2.1, q3.2.2.2.1, fun j hj hne => by rw [if_neg (by omega)]; exact q3.2.2.2.2 j hj (by omega)⟩
   ·refine ⟨q.1, by have := T.idn; omega, fun e2 => by have := (T.fl a e2).1; omega, fun e2 => by have := (T.fs a e2).1; omega, fun j hj hne => ?_⟩
    rw [if_neg (by omega)]
    intro e2; have := (T.fw j a hj e2).1; omega
  ·rw [if_neg e] at ha
   have q := T.fw i a hi' ha
   refine ⟨by omega, q.2.1, q.2.2.1, q.2.2.2.1, fun j hj hne => ?_⟩
   by_cases e2 : j = k
   ·rw [if_pos e2]
    intro e3
    rcases (g4 a e3).2 with q2 | q2
    ·exact q.2.2.2.2 k hk (by omega) q2
    ·omega
   ·rw [if_neg e2]; exact q.2.2.2.2 j hj hne
theorem TabM.insLk {t : Tb} {id : Nat} {Sl Ss : V} {W : Nat → V} {h g : Heap} {n m : Nat} (T : TabM t id Sl Ss W h n) {k : Nat} (hk : k ≤ t.lk.length) (l : Lk) (w : V) (nx : Int) (lb : Nat) (hnm : n ≤ m) (hlb : n ≤ lb ∧ lb < m)
  (g1 : g id = some ⟨[[.int .i64 t.tm, .int .i64 nx, .view lb 0 (t.lk.length + 1), Ss]], 4, 35⟩) (g2 : g lb = some ⟨(rwW t.lk W).take k ++ l.V w :: (rwW t.lk W).drop k, 5, 29⟩) (g3 : IsL g w (l.ws.map wtV) 2 123)
  (g4 : ∀ a, fpV w = some a → a < m ∧ n ≤ a ∧ a ≠ lb) (g5 : ∀ a, OwnT id Sl Ss W t.lk.length a → a ≠ id → fpV Sl ≠ some a → g a = h a) : TabM ⟨t.tm, nx, insL t.lk k l, t.sn⟩ id (.view lb 0 (t.lk.length + 1)) Ss (insW W k w) g m := by
 have hlen : (insL t.lk k l).length = t.lk.length + 1 := J0 hk
 have hid := T.idn
 have key : ∀ i a, i < t.lk.length + 1 → fpV (insW W k w i) = some a → (i = k ∧ fpV w = some a) ∨ ∃ j, j < t.lk.length ∧ fpV (W j) = some a ∧ (i < k ∧ j = i ∨ k < i ∧ j + 1 = i) := fun i a hi ha => by
  unfold insW at ha
  by_cases h1 : i < k
  ·rw [if_pos h1] at ha; exact .inr ⟨i, by omega, ha, .inl ⟨h1, rfl⟩⟩
  ·rw [if_neg h1] at ha
   by_cases h2 : i = k
   ·rw [if_pos h2] at ha; exact .inl ⟨h2, ha⟩
   ·rw [if_neg h2] at ha; exact .inr ⟨i - 1, by omega, ha, .inr ⟨by omega, by omega⟩⟩
 refine ⟨by omega, g1, ?_, T.ks.mono fun a ha => ?_, fun i hi => ?_, fun a ha => ?_, fun a ha => ?_, fun i a hi ha => ?_⟩
 ·show IsZ g _ (rwW (insL t.lk k l) _) 5 29
  rw [← rwW_ins hk]
  refine .inr ⟨lb, ?_, g2⟩
  rw [rwW_ins hk, B6, hlen]
 ·have := T.fs a ha
  exact g5 a (.inr (.inr (.inl ha))) this.2.1 this.2.2
 ·have hi' : i < t.lk.length + 1 := by rw [← hlen]; exact hi
  show IsL g _ (((insL t.lk k l).getD i Lk0).ws.map wtV) 2 123
  rw [Z3 hk]
  unfold insW
  have old : ∀ j, j < t.lk.length → IsL g (W j) ((t.lk.getD j Lk0).ws.map wtV) 2 123 := fun j hj => (T.kw j hj).mono fun a ha => by
   have q := T.fw j a hj ha
   exact g5 a (.inr (.inr (.inr ⟨j, hj, ha⟩))) q.2.1 q.2.2.1
  by_cases h1 : i < k
  ·rw [if_pos h1, if_pos h1]; exact old i (by omega)
  ·rw [if_neg h1, if_neg h1]
   by_cases h2 : i = k
   ·rw [if_pos h2, if_pos h2]; exact g3
   ·rw [if_neg h2, if_neg h2]; exact old (i - 1) (by omega)
 ·cases ha; exact ⟨hlb.2, by omega⟩
 ·have q := T.fs a ha
  exact ⟨by omega, q.2.1, fun e => by cases e; omega⟩
 ·have hi' : i < t.lk.length + 1 := by rw [← hlen]; exact hi
  show a < m ∧ a ≠ id ∧ some lb ≠ some a ∧ fpV Ss ≠ some a ∧ ∀ j, j < (insL t.lk k l).length → _
  rw [hlen]
  rcases key i a hi' ha with ⟨e, ha'⟩ | ⟨j, hj, ha', hji⟩
  ·have q := g4 a ha'
   refine ⟨q.1, by omega, fun e => q.2.2 (Option.some.inj e).symm, fun e2 => by have := (T.fs a e2).1; omega, fun j hj hne e2 => ?_⟩
   rcases key j a hj e2 with ⟨e3, _⟩ | ⟨j', hj', e3, _⟩
   ·omega
   ·have := (T.fw j' a hj' e3).1; omega
  ·have q := T.fw j a hj ha'
   refine ⟨by omega, q.2.1, fun e => by have := Option.some.inj e; omega, q.2.2.2.1, fun i2 hi2 hne e2 => ?_⟩
   rcases key i2 a hi2 e2 with ⟨_, e3⟩ | ⟨j', hj', e3, h3⟩
   ·have := g4 a e3; omega
   ·exact q.2.2.2.2 j' hj' (by omega) e3
theorem TabM.setSn {t : Tb} {id : Nat} {Sl Ss : V} {W : Nat → V} {h g : Heap} {n m : Nat} (T : TabM t id Sl Ss W h n) (sn : List Sn) (Ss' : V) (hnm : n ≤ m) (g1 : g id = some ⟨[[.int .i64 t.tm, .int .i64 t.nx, Sl, Ss']], 4, 35⟩)
  (g2 : IsZ g Ss' (sn.map Sn.V) 6 115) (g4 : ∀ a, fpV Ss' = some a → a < m ∧ (fpV Ss = some a ∨ n ≤ a)) (g5 : ∀ a, OwnT id Sl Ss W t.lk.length a → a ≠ id → fpV Ss ≠ some a → g a = h a) : TabM ⟨t.tm, t.nx, t.lk, sn⟩ id Sl Ss' W g m := by
 have hid := T.idn
 refine ⟨by omega, g1, T.kl.mono fun a ha => ?_, g2, fun i hi => (T.kw i hi).mono fun a ha => ?_, fun a ha => ⟨by have := (T.fl a ha).1; omega, (T.fl a ha).2⟩, fun a ha => ?_, fun i a hi ha => ?_⟩
 ·exact g5 a (.inr (.inl ha)) (T.fl a ha).2 (fun e => (T.fs a e).2.2 ha)
 ·have q := T.fw i a hi ha
  exact g5 a (.inr (.inr (.inr ⟨i, hi, ha⟩))) q.2.1 q.2.2.2.1
 ·have q := g4 a ha
  rcases q.2 with q2 | q2
  ·have q3 := T.fs a q2; exact ⟨q.1, q3.2⟩
  ·exact ⟨q.1, by omega, fun e => by have := (T.fl a e).1; omega⟩
 ·have q := T.fw i a hi ha
  refine ⟨by omega, q.2.1, q.2.2.1, fun e => ?_, q.2.2.2.2⟩
  rcases (g4 a e).2 with q2 | q2
  ·exact q.2.2.2.1 q2
  ·omega
theorem TabM.setTm {t : Tb} {id : Nat} {Sl Ss : V} {W : Nat → V} {h g : Heap} {n m : Nat} (T : TabM t id Sl Ss W h n) (tm : Int) (hnm : n ≤ m) (g1 : g id = some ⟨[[.int .i64 tm, .int .i64 t.nx, Sl, Ss]], 4, 35⟩)
  (g5 : ∀ a, OwnT id Sl Ss W t.lk.length a → a ≠ id → g a = h a) : TabM ⟨tm, t.nx, t.lk, t.sn⟩ id Sl Ss W g m := by
 have hid := T.idn
 exact ⟨by omega, g1, T.kl.mono fun a ha => g5 a (.inr (.inl ha)) (T.fl a ha).2, T.ks.mono fun a ha => g5 a (.inr (.inr (.inl ha))) (T.fs a ha).2.1, fun i hi => (T.kw i hi).mono fun a ha => g5 a (.inr (.inr (.inr ⟨i, hi, ha⟩))) (T.fw i a hi ha).2.1,
  fun a ha => ⟨by have := (T.fl a ha).1; omega, (T.fl a ha).2⟩, fun a ha => ⟨by have := (T.fs a ha).1; omega, (T.fs a ha).2⟩, fun i a hi ha => ⟨by have := (T.fw i a hi ha).1; omega, (T.fw i a hi ha).2⟩⟩
def tellL (kd : Int) (l : Lk) : An := ⟨kd, l.tk, l.hd, l.ex⟩
def bareA (kd : Int) : An := ⟨kd, 0, -1, 0⟩
def frL (tm nx : Int) (l : Lk) : Lk := match l.ws with | [] => ⟨l.nm, l.tk, -1, 0, []⟩ | w :: r => ⟨l.nm, nx, w.1, tm + w.2, r⟩
def frN (nx : Int) (l : Lk) : Int := if l.ws ≠ [] then nx + 1 else nx
theorem exF_fr {tm nx : Int} {l : Lk} (h : gone tm l) : exF tm nx l = frL tm nx l := if_pos h
theorem exN_fr {tm nx : Int} {l : Lk} (h : gone tm l) : exN tm nx l = frN nx l := by unfold exN frN; by_cases e : l.ws ≠ [] <;> simp [h, e]
noncomputable def acqL (t : Tb) (k : Nat) (r : Rq) : Tb × An :=
 if (t.lk.getD k Lk0).hd = r.cl ∨ 0 ≤ wix r.cl (t.lk.getD k Lk0).ws then (t, tellL 8 (t.lk.getD k Lk0))
 else if (t.lk.getD k Lk0).hd = -1 then (⟨t.tm, t.nx + 1, t.lk.set k ⟨(t.lk.getD k Lk0).nm, t.nx, r.cl, t.tm + r.le, (t.lk.getD k Lk0).ws⟩, t.sn⟩, ⟨1, t.nx, r.cl, t.tm + r.le⟩)
 else if (t.lk.getD k Lk0).ws.length = 4 then (t, tellL 6 (t.lk.getD k Lk0))
 else (⟨t.tm, t.nx, t.lk.set k ⟨(t.lk.getD k Lk0).nm, (t.lk.getD k Lk0).tk, (t.lk.getD k Lk0).hd, (t.lk.getD k Lk0).ex, (t.lk.getD k Lk0).ws ++ [(r.cl, r.le)]⟩, t.sn⟩, tellL 2 (t.lk.getD k Lk0))
noncomputable def acqT (t : Tb) (r : Rq) : Tb × An :=
 if hit r.nm t.lk then acqL t (pos r.nm t.lk) r
 else if t.lk.length = 4 then (t, bareA 6)
 else (⟨t.tm, t.nx + 1, insL t.lk (pos r.nm t.lk) ⟨r.nm, t.nx, r.cl, t.tm + r.le, []⟩, t.sn⟩, ⟨1, t.nx, r.cl, t.tm + r.le⟩)
noncomputable def doL (t : Tb) (k : Nat) (r : Rq) : Tb × An :=
 if 0 ≤ wix r.cl (t.lk.getD k Lk0).ws ∧ r.kd = 2 then
  (⟨t.tm, t.nx, t.lk.set k ⟨(t.lk.getD k Lk0).nm, (t.lk.getD k Lk0).tk, (t.lk.getD k Lk0).hd, (t.lk.getD k Lk0).ex, (t.lk.getD k Lk0).ws.take (wix r.cl (t.lk.getD k Lk0).ws).toNat ++ (t.lk.getD k Lk0).ws.drop ((wix r.cl (t.lk.getD k Lk0).ws).toNat + 1)⟩, t.sn⟩, tellL 1 (t.lk.getD k Lk0))
 else if (t.lk.getD k Lk0).hd = -1 then (t, tellL 4 (t.lk.getD k Lk0))
 else if r.kd = 4 ∨ (t.lk.getD k Lk0).hd ≠ r.cl then (t, tellL 5 (t.lk.getD k Lk0))
 else if r.kd = 3 then (⟨t.tm, t.nx, t.lk.set k ⟨(t.lk.getD k Lk0).nm, (t.lk.getD k Lk0).tk, (t.lk.getD k Lk0).hd, t.tm + r.le, (t.lk.getD k Lk0).ws⟩, t.sn⟩, ⟨1, (t.lk.getD k Lk0).tk, (t.lk.getD k Lk0).hd, t.tm + r.le⟩)
 else (⟨t.tm, frN t.nx (t.lk.getD k Lk0), t.lk.set k (frL t.tm t.nx (t.lk.getD k Lk0)), t.sn⟩, tellL 1 (frL t.tm t.nx (t.lk.getD k Lk0)))
noncomputable def doT (t : Tb) (r : Rq) : Tb × An :=
 if r.kd = 1 then acqT t r else if hit r.nm t.lk then doL t (pos r.nm t.lk) r else (t, bareA 3)
def snP (c : Int) : List Sn → Nat
 | [] => 0
 | s :: r => if s.cl < c then snP c r + 1 else 0
def snH (c : Int) (L : List Sn) : Prop := snP c L < L.length ∧ (L.getD (snP c L) Sn0).cl = c
noncomputable instance (c : Int) (L : List Sn) : Decidable (snH c L) := Classical.propDecidable _
noncomputable def reqT (t : Tb) (r : Rq) : Tb × An :=
 if snH r.cl t.sn ∧ (t.sn.getD (snP r.cl t.sn) Sn0).st = r.st then (t, (t.sn.getD (snP r.cl t.sn) Sn0).an)
 else if snH r.cl t.sn ∧ (t.sn.getD (snP r.cl t.sn) Sn0).st > r.st then (t, bareA 7)
 else if ¬ snH r.cl t.sn ∧ t.sn.length = 6 then (t, bareA 6)
 else (⟨(doT t r).1.tm, (doT t r).1.nx, (doT t r).1.lk, if snH r.cl t.sn then t.sn.set (snP r.cl t.sn) ⟨r.cl, r.st, (doT t r).2⟩ else insL t.sn (snP r.cl t.sn) ⟨r.cl, r.st, (doT t r).2⟩⟩, (doT t r).2)
noncomputable def rqT (t : Tb) (now : Int) (r : Rq) : Tb × An := reqT (exT t now) r
end Go.Proofs.Ytknnniaoboaghaa
