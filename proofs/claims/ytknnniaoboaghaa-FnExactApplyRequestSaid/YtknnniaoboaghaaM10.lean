import Derived.Test.YtknnniaoboaghaaM9
namespace Go.V
open Go
open Go.RowKit (Below)
set_option linter.unusedVariables false
set_option linter.unusedSimpArgs false
section ops
variable {E : Env} {o : Oper} {t : Nat → V} {h : Heap} {n : Nat}
theorem run_bounds3 {P : Program} {w : World} {len cap : Nat} {k1 k2 k3 : IntKind} {l r m : Int} (h0 : 0 ≤ l) (h1 : l ≤ r) (h2 : r ≤ m) (h3 : m ≤ cap) : (Instr.sliceBounds true len cap (some (.int k1 l)) (some (.int k2 r)) (some (.int k3 m))).run P w = .ok (l.toNat, r.toNat, m.toNat) w := by
  have one : ∀ (k : IntKind) (i : Int) (y : Nat) (code : BoundsCode) (w : World), 0 ≤ i → i ≤ y → (Instr.sliceBound (.int k i) y code).run P w = .ok i.toNat w := fun k i y code w a b => by
    simp [Instr.sliceBound, asIntOf, a, b]
  unfold Instr.sliceBounds
  simp [one k3 m cap _ w (by omega) h3, one k2 r m.toNat _ w (by omega) (by omega), one k1 l r.toNat _ w h0 (by omega)]
theorem op_slice3 {ty e : TypeId} {x lo hi mx : Operand} {k1 k2 k3 : IntKind} {id off len cp sz : Nat} {l r m : Int} (ho : o.op = .slice ty x (some lo) (some hi) (some mx)) (hx : E.eval t x = .vcap id off len cp)
    (hs : sliceP E.P ty = some (e, sz)) (hl : E.eval t lo = .int k1 l) (hr : E.eval t hi = .int k2 r) (hm : E.eval t mx = .int k3 m) (h0 : 0 ≤ l) (h1 : l ≤ r) (h2 : r ≤ m) (h3 : m ≤ cp) :
    OpOK E o t h n [] false .unk [] n :=
  OpOK.value fun c a h2' hx' hg hrd => by
    have g1 := hx' x (by simp [ho, Op.operands])
    rw [hx] at g1
    have gl := (by have := hx' lo (by simp [ho, Op.operands]); rw [hl] at this; exact this.int_inv)
    have gr := (by have := hx' hi (by simp [ho, Op.operands]); rw [hr] at this; exact this.int_inv)
    have gm := (by have := hx' mx (by simp [ho, Op.operands]); rw [hm] at this; exact this.int_inv)
    obtain ⟨hu, i, hi', hiz⟩ := sliceP_spec hs
    generalize hw : a.eval x = w at g1
    cases g1 with
    | vcap _ _ _ _ p off' hp hof hlc hpm =>
      have hrun := run_bounds3 (P := E.P) (w := c.w) (len := len) (cap := cp) (k1 := k1) (k2 := k2) (k3 := k3) h0 h1 h2 h3
      refine ⟨.slice (if m.toNat = l.toNat then some ⟨p.b, off', none⟩ else (some (⟨p.b, off', none⟩ : Addr)).map (·.add (l.toNat * i.size))) (r.toNat - l.toNat) (m.toNat - l.toNat), ?_, .unk _⟩
      · simp [execOp, ho, hw, gl, gr, gm, Instr.sliceAt, Instr.slice, run_underlying hu, hrun, sizeOf, typeInfo, hi']
theorem op_slice_nsl2 {ty e : TypeId} {x : Operand} {lo hi : Option Operand} {sz : Nat} (ho : o.op = .slice ty x lo hi none) (hx : E.eval t x = .nsl)
    (hs : sliceP E.P ty = some (e, sz)) (hl : bndV E t lo 0 = some 0) (hr : bndV E t hi 0 = some 0) : OpOK E o t h n [] false .nsl [] n :=
  OpOK.value fun c a h2' hx' hg hrd => by
    have g1 := hx' x (by simp [ho, Op.operands])
    rw [hx] at g1
    have gl := bnd_val hl (fun y hy => hx' y (by simp [ho, Op.operands, hy]))
    have gr := bnd_val hr (fun y hy => hx' y (by simp [ho, Op.operands, hy]))
    obtain ⟨hu, i, hi', hiz⟩ := sliceP_spec hs
    have hv := g1.nsl_inv
    have hrun := run_bounds (P := E.P) (w := c.w) (len := 0) (cap := 0) (lo := lo.map a.eval) (hi := hi.map a.eval) (l := 0) (r := 0)
      (by rcases gl with ⟨rfl, h⟩ | ⟨y, k, rfl, h⟩
          · exact .inl ⟨rfl, rfl⟩
          · exact .inr ⟨k, by simp [h]⟩)
      (by rcases gr with ⟨rfl, h⟩ | ⟨y, k, rfl, h⟩
          · exact .inl ⟨rfl, rfl⟩
          · exact .inr ⟨k, by simp [h]⟩) (Int.le_refl _) (Int.le_refl _) (Int.le_refl _) (Nat.le_refl _)
    refine ⟨.slice none 0 0, ?_, .nsl⟩
    simp [execOp, ho, hv, Instr.sliceAt, Instr.slice, run_underlying hu, hrun, sizeOf, typeInfo, hi']
theorem op_clear {ty e : TypeId} {x : Operand} {sz by' id off len : Nat} {b : Blk} (ho : o.op = .call { callee := .builtin .clear, args := #[x], argTypes := #[ty] })
    (hx : dstV (E.eval t x) = some (id, off, len)) (hb : h id = some b) (hbz : b.sz = sz) (hbt : b.ty = e) (hle : off + len ≤ b.es.length) (hs : elemP E.P ty = some (e, sz, by')) (hone : zeroOne E.P e = true) (h0 : sz ≠ 0) :
    OpOK E o t h n [id] false (.tup []) [(id, some ⟨putR b.es off (List.replicate len (List.replicate sz .unk)), sz, e⟩)] n := by
  intro c a h2 K Q hd hx' hg hrd _ hf hK
  have g1 := hx' x (by simp [ho, Op.operands, Call.operands])
  obtain ⟨p, o', cap, hw, hp, hof, hlc, hpm⟩ := dst_val g1 hx
  obtain ⟨i, z, hu, hi, hz, rfl, rfl, hzz⟩ := elemP_spec hs
  have hzo : z.cells.all (fun v => v.oneCell') = true := by
    unfold zeroOne at hone
    rw [hi] at hone
    simp only [hz] at hone
    exact hone
  have hb2 : h2 id = some b := by rw [hrd id (by simp)]; exact hb
  obtain ⟨cells, fz, q2, q3, q4, q5, q6, q7, q8⟩ := hg.cells hb2 hp hpm
  let news : List Value := (Builtin.zeroCells z.cells len).toList
  have hnl : news.length = len * i.size := by simp only [news, Array.length_toList, size_zeroCells, hzz]
  have h1n : ∀ u ∈ news, u.oneCell' = true := zeroCells_one hzo (by rw [hzz]; exact h0)
  by_cases hlen : len = 0
  · subst hlen
    have hex : (execOp a.eval o).run E.P c.w = .ok (.value (.tuple #[])) c.w := by
      simp [execOp, ho, hw, resolve, invoke, builtin, Builtin.clear_, run_underlying hu]
    unfold Oper.wp
    rw [hex, Oper.upon_value]
    refine hK c _ (Ext.refl c) ?_ (fun id h => .inl h) (.tup [] #[] rfl (by simp))
    have e1 : app [(id, some ⟨putR b.es off (List.replicate 0 (List.replicate i.size .unk)), i.size, e⟩)] h2 = h2 := by
      have e2 : putR b.es off (List.replicate 0 (List.replicate i.size V.unk)) = b.es := by simp [putR]
      rw [e2, ← hbz, ← hbt]
      funext k
      simp only [app]
      by_cases hk : k = id
      · subst hk; rw [upd_same, hb2]
      · rw [upd_ne _ _ hk]
    rw [e1]; exact hg
  · have hcap : ¬ cap = 0 := by omega
    obtain ⟨e1, e2⟩ := hof.resolve_left hcap
    have e1' := e1
    rw [q2, hbz] at e1 e2
    have hle2 : len * i.size ≤ cap * i.size := Nat.mul_le_mul_right _ hlc
    have hcell : ∀ k, k < news.length → (c.w.cell? ⟨p.b, o' + 0 + k, none⟩).isSome = true := fun k hk => by
      rw [hnl] at hk
      have : o' + k < cells.size := by omega
      simp [World.cell?, q3, this]
    have hfrz : ∀ k, k < news.length → c.w.frozen? ⟨p.b, o' + 0 + k, none⟩ = false := fun k hk => by
      rw [hnl] at hk
      have : ¬ (fz.1 ≤ o' + k ∧ o' + k < fz.2) := by omega
      cases hz : (decide (fz.1 ≤ o' + k) && decide (o' + k < fz.2)) with
      | false => obtain ⟨z1, z2⟩ := fz; simpa [World.frozen?, q3] using hz
      | true =>
        simp only [Bool.and_eq_true, decide_eq_true_eq] at hz
        exact absurd hz this
    have hst := run_storeCells_cells (P := E.P) p.b o' news 0 c.w hcell hfrz h1n
    simp only [Nat.add_zero] at hst
    have hex : (execOp a.eval o).run E.P c.w = .ok (.value (.tuple #[])) (c.put p (p.o + off * b.sz) news).w := by
      have hz' : ∀ w, (zeroValue e).run E.P w = .ok z w := fun w => by simp [zeroValue, typeInfo, hi, hz]
      obtain ⟨m, rfl⟩ : ∃ m, len = m + 1 := ⟨len - 1, by omega⟩
      simp only [news] at hst
      have e3 : o' = p.o + off * b.sz := by rw [hbz]; exact e1
      rw [e3] at hst hw
      simp [execOp, ho, hw, resolve, invoke, builtin, Builtin.clear_, run_underlying hu, hz', hst, Cx.put, news]
    obtain ⟨hx2, hg2⟩ := hg.put (ys := List.replicate len (List.replicate i.size V.unk)) (news := news) hb2 hp hpm (d := off) (by omega) (fun e he => by rw [List.eq_of_mem_replicate he]; simp [hbz]) (by rw [hnl, hbz]; simp)
      (fun i' j y hy => by
        obtain ⟨e1, e2, rfl⟩ := get2_unk hy
        have : (i' + 1) * i.size ≤ len * i.size := Nat.mul_le_mul_right _ e1
        rw [Nat.succ_mul] at this
        have hlt2 : i' * b.sz + j < news.length := by rw [hbz]; omega
        exact ⟨_, List.getElem?_eq_getElem hlt2, .unk _⟩) h1n (.inl (by
        rw [hbz]
        simp only [List.length_replicate]
        rw [Nat.add_mul]; omega))
    unfold Oper.wp
    rw [hex, Oper.upon_value]
    refine hK _ _ hx2 ?_ (fun id' hid' => .inl hid') (.tup [] #[] rfl (by simp))
    have e9 : app [(id, some ⟨putR b.es off (List.replicate len (List.replicate i.size .unk)), i.size, e⟩)] h2 = upd h2 id (some ⟨putR b.es off (List.replicate len (List.replicate i.size .unk)), b.sz, b.ty⟩) := by
      rw [hbz, hbt]; rfl
    rw [e9]; exact hg2
end ops
section
variable {E : Env} {sz : Nat} {t : Nat → V} {h : Heap} {n : Nat} {ops : Array Oper} {l : List Oper} {o : Oper} {bl : List Nat} {pre : List Ef} {R : (Nat → V) → Heap → Nat → Prop} {x y : Operand} {ty ty' : TypeId} {k : IntKind} {a b : Int}
theorem rsl3 {lo hi mx : Operand} {e : TypeId} {k1 k2 k3 : IntKind} {i j m cp s : Nat} {a b c : Int} (ho : o.op = .slice ty x (some lo) (some hi) (some mx)) (hx : E.eval t x = .vcap i j m cp) (hs : sliceP E.P ty = some (e, s)) (hl : E.eval t lo = .int k1 a) (hr : E.eval t hi = .int k2 b) (hm : E.eval t mx = .int k3 c) (h0 : 0 ≤ a) (h1 : a ≤ b) (h2 : b ≤ c) (h3 : c ≤ cp) {d : Nat} (hdd : o.dst = some d) (hd : Nat.blt d sz = true) (hg : guardV ops t o = some true) (w : WR E sz ops l (upd t d .unk) h n R) : WR E sz ops (o :: l) t h n R := r0 (op_slice3 ho hx hs hl hr hm h0 h1 h2 h3) hdd hd hg w
theorem dsnn {lo hi : Option Operand} {e : TypeId} {s : Nat} (ho : o.op = .slice ty x lo hi none) (hx : E.eval t x = .nsl) (hs : sliceP E.P ty = some (e, s)) (hl : bndV E t lo 0 = some 0) (hr : bndV E t hi 0 = some 0) {d : Nat} (hdd : o.dst = some d) (hd : Nat.blt d sz = true) (hg : guardV ops t o = some true) (w : WD E sz ops bl (⟨false, .nsl, [], false, [], n, n⟩ :: pre) l (upd t d (.nsl)) h n R) : WD E sz ops bl pre (o :: l) t h n R := d0 (op_slice_nsl2 ho hx hs hl hr) hdd hd hg w
theorem rclr {s s' i j m : Nat} {B : Blk} {e : TypeId} (ho : o.op = .call { callee := .builtin .clear, args := #[x], argTypes := #[ty] }) (hx : dstV (E.eval t x) = some (i, j, m)) (hb : h i = some B) (hbz : B.sz = s) (hbt : B.ty = e) (hle : j + m ≤ B.es.length) (hs : elemP E.P ty = some (e, s, s')) (hone : zeroOne E.P e = true) (h0 : s ≠ 0) (hdd : o.dst = none) (hg : guardV ops t o = some true) (w : WR E sz ops l t (app [(i, some ⟨putR B.es j (List.replicate m (List.replicate s .unk)), s, e⟩)] h) n R) : WR E sz ops (o :: l) t h n R :=
  rOp (op_clear ho hx hb hbz hbt hle hs hone h0) (by rw [hdd]; rfl) hg (Nat.le_refl _) (fun h => by simp at h) (by rw [hdd]; exact w)
end
end Go.V
namespace Go.V
open Go
open Go.RowKit (Below)
set_option linter.unusedVariables false
theorem CellsAt.take {c : Cx} {p : Place} {b : Blk} (h : CellsAt c p b) (k : Nat) : CellsAt c p ⟨b.es.take k, b.sz, b.ty⟩ := by
  obtain ⟨cells, fz, h2, h3, h4, h5, h6, h7, h8⟩ := h
  refine ⟨cells, fz, h2, h3, h4, h5, ?_, fun e he => h7 e (List.mem_of_mem_take he), fun i j x hx => ?_⟩
  · have : (b.es.take k).length * b.sz ≤ b.es.length * b.sz := Nat.mul_le_mul_right _ (by simp; omega)
    exact Nat.le_trans this h6
  · refine h8 i j x ?_
    unfold get2 at hx ⊢
    simp only at hx
    rw [List.getElem?_take] at hx
    split at hx
    · exact hx
    · cases hx
theorem Open.aliasT {E : Env} {f : FuncId} {args : List V} {h : Heap} {n m id off len cp : Nat} {wr : List (Nat × Option Blk)} {X : Blk}
    (H : Open E f args h n (.vcap id off len cp) wr m) (hX : app wr h id = some X) (k0 : Nat) : Open E f args h n (.view m off len) (wr ++ [(id, none), (m, some ⟨X.es.take k0, X.sz, X.ty⟩)]) (m + 1) := by
  generalize hY : (⟨X.es.take k0, X.sz, X.ty⟩ : Blk) = Y
  unfold Open at H ⊢
  refine ⟨⟨H.1.1, Nat.le_succ_of_le H.1.2⟩, fun c vs hg hfr hal har => ?_⟩
  refine Calls.mono (H.2 c vs hg hfr hal har) ?_
  rintro e w' ⟨u, c', rfl, rfl, hx, hg', hd, hv⟩
  generalize hvv : V.vcap id off len cp = vv at hv
  cases hv with
  | vcap id' off' len' cp' p o hp ho hl hm =>
    cases hvv
    have hmn : c'.ρ m = none := by
      cases hq : c'.ρ m with
      | none => rfl
      | some q =>
        rcases hd m (by rw [hq]; nofun) with h1 | h1
        · exact absurd (hfr m H.1.2) h1
        · omega
    have him : id ≠ m := fun e => by rw [e, hmn] at hp; cases hp
    let c2 : Cx := { c' with ρ := upd c'.ρ m (some p) }
    have hx2 : Ext c' c2 := by
      refine ⟨rfl, fun i q hq => ?_, fun _ h => h, fun _ _ => rfl, Below.refl _ _⟩
      have : i ≠ m := fun e => by rw [e, hmn] at hq; cases hq
      show upd c'.ρ m (some p) i = some q
      rw [upd_ne _ _ this]; exact hq
    have hρ : ∀ i, i ≠ m → c2.ρ i = c'.ρ i := fun i hi => upd_ne _ _ hi
    have hρm : c2.ρ m = some p := upd_same _ _ _
    have happ : app (wr ++ [(id, none), (m, some Y)]) h = upd (upd (app wr h) id none) m (some Y) := by rw [app_append]; rfl
    have hlive : ∀ i x, upd (upd (app wr h) id none) m (some Y) i = some x → (i = m ∧ x = Y) ∨ (i ≠ m ∧ i ≠ id ∧ app wr h i = some x) := by
      intro i x hi
      by_cases h1 : i = m
      · subst h1; rw [upd_same] at hi; exact .inl ⟨rfl, (Option.some.inj hi).symm⟩
      · rw [upd_ne _ _ h1] at hi
        by_cases h2 : i = id
        · subst h2; rw [upd_same] at hi; cases hi
        · rw [upd_ne _ _ h2] at hi; exact .inr ⟨h1, h2, hi⟩
    
    have hold : ∀ i x r, upd (upd (app wr h) id none) m (some Y) i = some x → c2.ρ i = some r → ∃ k x', app wr h k = some x' ∧ c'.ρ k = some r ∧ ((i = m ∧ k = id) ∨ (i = k ∧ k ≠ id)) := by
      intro i x r hi hr
      rcases hlive i x hi with ⟨rfl, rfl⟩ | ⟨h1, h2, h3⟩
      · rw [hρm] at hr; cases hr
        exact ⟨id, X, hX, hp, .inl ⟨rfl, rfl⟩⟩
      · rw [hρ i h1] at hr
        exact ⟨i, x, h3, hr, .inr ⟨rfl, h2⟩⟩
    refine ⟨_, c2, rfl, rfl, hx.trans hx2, ?_, fun i hi => ?_, ?_⟩
    · rw [happ]
      refine ⟨fun i x hi => ?_, fun i i' x x' r r' hi hi' hr hr' he => ?_, hg'.imm, fun i x r hi hr => ?_, fun i r hr => ?_, hg'.base, fun g cs hgc => (hg'.glob g cs hgc).mono hx2⟩
      · rcases hlive i x hi with ⟨rfl, rfl⟩ | ⟨h1, h2, h3⟩
        · subst hY
          obtain ⟨q, g1, g2, g3⟩ := hg'.blk id _ hX
          rw [hp] at g1; obtain rfl := Option.some.inj g1
          exact ⟨_, hρm, fun hm' => ((CellsAt.take (g2 hm') k0).mono hx2 rfl), fun hm' => by rw [hm] at hm'; cases hm'⟩
        · obtain ⟨q, g1, g2, g3⟩ := hg'.blk i x h3
          exact ⟨q, hx2.rho _ _ g1, fun hm => (g2 hm).mono hx2 rfl, fun hm => (g3 hm).mono hx2 rfl⟩
      · obtain ⟨k, y1, a1, a2, a3⟩ := hold i x r hi hr
        obtain ⟨k', y2, b1, b2, b3⟩ := hold i' x' r' hi' hr'
        have hk := hg'.inj k k' y1 y2 r r' a1 b1 a2 b2 he
        rcases a3 with ⟨rfl, a4⟩ | ⟨rfl, a4⟩ <;> rcases b3 with ⟨rfl, b4⟩ | ⟨rfl, b4⟩
        · rfl
        · exact absurd (hk ▸ a4) b4
        · exact absurd (hk.trans b4) a4
        · exact hk
      · obtain ⟨k, y1, a1, a2, _⟩ := hold i x r hi hr
        exact hg'.sep k y1 r a1 a2
      · by_cases h1 : i = m
        · subst h1; rw [hρm] at hr; cases hr; exact hg'.own id p hp
        · rw [hρ i h1] at hr; exact hg'.own i r hr
    · by_cases h1 : i = m
      · right; have := H.1.2; omega
      · rw [hρ i h1] at hi
        rcases hd i hi with h2 | h2
        · exact .inl h2
        · right; omega
    · exact .view m off len p o cp hρm ho hl hm
  | _ => cases hvv
end Go.V
namespace Go.Proofs.Ytknnniaoboaghaa
open Go.V
set_option linter.unusedVariables false
set_option linter.unusedSimpArgs false
set_option maxRecDepth 20000
set_option maxHeartbeats 4000000
theorem delR {p A B : List (List V)} {x u : List V} : putR (putR (p ++ (A ++ x :: B)) (p.length + A.length) B) (p.length + (A.length + B.length)) [u] = (p ++ (A ++ B)) ++ [u] := by
 have e1 : p ++ (A ++ x :: B) = (p ++ A) ++ x :: B := by simp
 have e2 : putR (p ++ (A ++ x :: B)) (p.length + A.length) B = (p ++ A) ++ (B ++ (x :: B).drop B.length) := by
  rw [e1]; exact putR_A (by simp) (by simp)
 have e3 : ((x :: B).drop B.length).length = 1 := by simp
 obtain ⟨y, hy⟩ := List.length_eq_one_iff.1 e3
 rw [e2, hy]
 have e4 : (p ++ A) ++ (B ++ [y]) = (p ++ (A ++ B)) ++ [y] := by simp
 rw [e4, putR_A (by simp) (by simp)]
 simp
theorem lenD {P : List (List V)} (L : List Wt) (a b : Nat) (hp : P.length ≤ a) : ∀ c ∈ ((P ++ L.map wtV).drop a).take b, c.length = 2 := fun c hc => by
 have h1 := List.mem_of_mem_take hc
 rw [List.drop_append, List.drop_of_length_le hp, List.nil_append] at h1
 obtain ⟨w, _, rfl⟩ := List.mem_map.1 (List.mem_of_mem_drop h1); rfl
theorem o135c (pre : List (List V)) (L : List Wt) (i c : Nat) (hi : i < L.length) (hc : L.length ≤ c) (hL : L.length ≤ 1000) {wb : Nat} {h : Heap} {n : Nat} (hw : wb < n) (k1 : h wb = some ⟨pre ++ L.map wtV, 2, 123⟩) : V.Open En 135 [.vcap wb pre.length L.length c, .int .i64 i, .int .i64 ((i : Int) + 1)] h n (.vcap wb pre.length (L.length - 1) c) [(wb, some ⟨(pre ++ (L.take i ++ L.drop (i + 1)).map wtV) ++ [[.unk, .unk]], 2, 123⟩)] n := by
 refine V.Open.of_wp Try.func135 rfl (Nat.le_of_ble_eq_true rfl) ?_
 refine wSeq (wRegion (raN rfl rfl rfl rfl rfl (rNil (qSeq (wSeq (wRegion (rmK rfl rfl rfl rfl rfl (rmI rfl rfl rfl rfl rfl (rmI rfl rfl rfl rfl rfl (rmK rfl rfl rfl rfl rfl (rll rfl rfl rfl rfl rfl rfl ?_)))))))))))
 (apply rsl3 rfl rfl rfl rfl rfl rfl; exact Q2; exact Q2; exact Q2; exact Q2; rfl; rfl; rfl)
 refine rNil (qSeq (wSeq (wSeq (wRegion (rmI rfl rfl rfl rfl rfl (rmI rfl rfl rfl rfl rfl ?_))))))
 refine req rfl rfl rfl rfl rfl rfl (fun h => absurd h ((by omega))) ?_
 intro h2_2
 refine rNil (qSeq (wF rfl (wSkip (qSeq (wSeq (wRegion (rmK rfl rfl rfl rfl rfl (rll rfl rfl rfl rfl rfl rfl (raI rfl rfl rfl rfl rfl (rNil (qSeq (wSeq ?_))))))))))))
 refine wDraw [0, 0, 3, 0, 0, 24, 63, 127] rfl (by decide +kernel) ?_
 refine dmK rfl rfl rfl rfl rfl (dmI rfl rfl rfl rfl rfl ?_)
 (apply dslc rfl rfl rfl; exact Q0; rfl; rfl; rfl; exact Q2; exact Q2; exact Q2; rfl; rfl; rfl)
 refine dmK rfl rfl rfl rfl rfl (dmI rfl rfl rfl rfl rfl ?_)
 (apply dslcV rfl rfl rfl; exact Q0; rfl; rfl; rfl; exact Q2; exact Q2; exact Q2; rfl; rfl; rfl)
 (apply dapi (s' := 16) rfl rfl; exact Q0; rfl; rfl; exact Q2; rfl; rfl; exact (Nat.succ_ne_zero _); (apply srcView rfl; exact Q0; (show _ ≤ (pre ++ L.map wtV).length; rw [List.length_append, List.length_map]; omega); rfl); exact lenD L _ _ (by omega); exact Q2; rfl; rfl; rfl)
 refine daK rfl rfl rfl rfl rfl (dNilR 8 [0, 3, 1, 0, 0, 1, 0, 0] [] rfl rfl (by decide +kernel) trivial ?_)
 refine qSeq (wSeq (wRegion (rmK rfl rfl rfl rfl rfl (rmK rfl rfl rfl rfl rfl (rll rfl rfl rfl rfl rfl rfl (rmI rfl rfl rfl rfl rfl ?_))))))
 (apply rslc rfl rfl rfl; exact Q0; rfl; rfl; rfl; exact Q2; exact Q2; exact Q2; rfl; rfl; rfl)
 (apply rclr (s' := 16) rfl rfl; exact Q0; rfl; rfl; exact Q2; rfl; (show zeroOne _ 123 = true; kernel_rfl); exact (Nat.succ_ne_zero _); rfl; rfl)
 refine rNil (qSeq (wSeq (wRegion (rmK rfl rfl rfl rfl rfl (raK rfl rfl rfl rfl rfl (rNil (qSeq (wRet ?_))))))))
 refine finO rfl (show V.vcap _ _ _ _ = _ from congr (congr (congrArg (V.vcap wb) (by first | rfl | omega | simp)) (by first | (simp; omega) | omega)) (by first | rfl | omega)) ?_ (Nat.le_refl _)
 refine leWr (fun jx hjx => ?_) (fun jx hjx hn => ?_)
 ·simp only [List.map_cons, List.map_nil, List.mem_cons, List.not_mem_nil, or_false] at hjx
  rw [hjx]
  (simp (disch := omega) only [↓appC, ↓updN, ↓updS, ↓app0])
  refine congrArg (fun z => some (Blk.mk z 2 123)) ?_
  obtain ⟨A, x, B, rfl, rfl⟩ : ∃ (A : List Wt) (x : Wt) (B : List Wt), L = A ++ x :: B ∧ A.length = i := ⟨L.take i, L[i], L.drop (i + 1), by rw [List.getElem_cons_drop, List.take_append_drop], by simp; omega⟩
  have q := delR (p := pre) (A := A.map wtV) (B := B.map wtV) (x := wtV x) (u := [.unk, .unk])
  have z0 : Int.toNat 0 = 0 := rfl
  have r1 : (A ++ x :: B).take A.length ++ (A ++ x :: B).drop (A.length + 1) = A ++ B := by simp
  rw [r1]
  simp only [List.map_append, List.map_cons, List.length_map] at q ⊢
  refine Eq.trans ?_ q
  have hlen : (A ++ x :: B).length = A.length + (B.length + 1) := by simp
  have d1 : pre.length + ((A.length : Int) + 1).toNat = (pre ++ (A.map wtV ++ [wtV x])).length := by simp <;> omega
  have d2 : List.drop (pre.length + ((A.length : Int) + 1).toNat) (pre ++ (A.map wtV ++ wtV x :: B.map wtV)) = B.map wtV := by
   rw [d1, show pre ++ (A.map wtV ++ wtV x :: B.map wtV) = (pre ++ (A.map wtV ++ [wtV x])) ++ B.map wtV by simp, List.drop_left]
  have d3 : List.take ((((A ++ x :: B).length : Nat) : Int).toNat - ((A.length : Int) + 1).toNat) (B.map wtV) = B.map wtV := List.take_of_length_le (by rw [hlen]; simp; omega)
  rw [d2, d3]
  simp only [List.length_map]
  have e1 : pre.length + Int.toNat 0 + ((A.length : Int).toNat - Int.toNat 0) = pre.length + A.length := by omega
  have e2 : ((((A.length : Int).toNat - Int.toNat 0 + B.length : Nat)) : Int).toNat = A.length + B.length := by omega
  rw [e1, e2, z0, Nat.add_zero, show (((A ++ x :: B).length : Nat) : Int).toNat - (A.length + B.length) = 1 by rw [hlen]; omega]
  rfl
 ·simp only [List.map_cons, List.map_nil, List.mem_cons, List.not_mem_nil, or_false, not_or] at hn
  (simp (disch := omega) only [↓appC, ↓updN, ↓updS, ↓app0])
theorem o135m (pre : List (List V)) (L : List Wt) (i : Nat) (hi : i < L.length) (hL : L.length ≤ 1000) {wb : Nat} {h : Heap} {n : Nat} (hw : wb < n) (k1 : h wb = some ⟨pre ++ L.map wtV, 2, 123⟩) :
  V.Open En 135 [.view wb pre.length L.length, .int .i64 i, .int .i64 ((i : Int) + 1)] h n (.view n pre.length (L.length - 1)) [(wb, none), (n, some ⟨pre ++ (L.take i ++ L.drop (i + 1)).map wtV, 2, 123⟩)] (n + 1) := by
 refine @V.Open.byCap _ _ [] [.int .i64 i, .int .i64 ((i : Int) + 1)] _ _ _ _ _ _ _ _ (fun c hc => ?_)
 have q := V.Open.aliasT (o135c pre L i c hi hc hL hw k1) (by simp only [app]; exact upd_same _ _ _) (pre.length + (L.length - 1))
 refine V.Open.lessW q (fun k b hb => ?_)
 have e : ((pre ++ (L.take i ++ L.drop (i + 1)).map wtV) ++ [[V.unk, V.unk]]).take (pre.length + (L.length - 1)) = pre ++ (L.take i ++ L.drop (i + 1)).map wtV := by
  rw [List.take_append_of_le_length (by simp; omega), List.take_of_length_le (by simp; omega)]
 dsimp only at q ⊢
 rw [e]
 simp only [app, List.cons_append, List.nil_append] at hb ⊢
 by_cases h1 : k = n
 ·subst h1; rw [upd_same] at hb ⊢; exact hb
 ·rw [upd_ne _ _ h1] at hb ⊢
  by_cases h2 : k = wb
  ·subst h2; rw [upd_same] at hb; cases hb
  ·rw [upd_ne _ _ h2] at hb ⊢; rw [upd_ne _ _ h2]; exact hb
open Go.V
set_option linter.unusedVariables false
set_option linter.unusedSimpArgs false
set_option maxRecDepth 20000
set_option maxHeartbeats 4000000
theorem toNat0 (k : Nat) : 0 + (k : Int).toNat = k := by omega
def TabS (t : Tb) (id : Nat) (F : Nat → Prop) (n : Nat) (h g : Heap) (m : Nat) : Prop :=
 ∃ Sl Ss W, TabM t id Sl Ss W g m ∧ (∀ a, OwnT id Sl Ss W t.lk.length a → F a ∨ n ≤ a) ∧ (∀ a, a < n → ¬ F a → g a = h a) ∧ n ≤ m
theorem TabM.same {t : Tb} {id : Nat} {Sl Ss : V} {W : Nat → V} {h g : Heap} {n m : Nat} (T : TabM t id Sl Ss W h n) (hm : n ≤ m) (e : ∀ a, a < n → g a = h a) : TabS t id (OwnT id Sl Ss W t.lk.length) n h g m :=
 ⟨Sl, Ss, W, T.ext hm e, fun a o => .inl o, fun a ha _ => e a ha, hm⟩
theorem TabM.lockS {t : Tb} {id : Nat} {Sl Ss : V} {W : Nat → V} {h g : Heap} {n m : Nat} (T : TabM t id Sl Ss W h n) {k : Nat} (hk : k < t.lk.length) {lb len : Nat} (hSl : Sl = .view lb 0 len) (l : Lk) (w : V) (nx : Int) (hnm : n ≤ m)
  (g1 : g id = some ⟨[[.int .i64 t.tm, .int .i64 nx, Sl, Ss]], 4, 35⟩) (g2 : g lb = some ⟨(rwW t.lk W).set k (l.V w), 5, 29⟩) (g3 : IsL g w (l.ws.map wtV) 2 123) (g4 : ∀ a, fpV w = some a → a < m ∧ (fpV (W k) = some a ∨ n ≤ a))
  (g5 : ∀ a, a < n → a ≠ id → a ≠ lb → fpV (W k) ≠ some a → g a = h a) : TabS ⟨t.tm, nx, t.lk.set k l, t.sn⟩ id (OwnT id Sl Ss W t.lk.length) n h g m := by
 have hlen : (t.lk.set k l).length = t.lk.length := List.length_set
 refine ⟨Sl, Ss, _, T.setLk hk hSl l w t.tm nx hnm g1 g2 g3 g4 (fun a o h1 h2 h3 => g5 a (T.lt o) h1 h2 h3), fun a o => ?_, fun a ha hna => ?_, hnm⟩
 ·rcases o with h | h | h | ⟨i, hi, h⟩
  ·exact .inl (.inl h)
  ·exact .inl (.inr (.inl h))
  ·exact .inl (.inr (.inr (.inl h)))
  ·have hi' : i < t.lk.length := by rw [← hlen]; exact hi
   dsimp only at h
   by_cases e : i = k
   ·rw [if_pos e] at h
    rcases (g4 a h).2 with h2 | h2
    ·exact .inl (.inr (.inr (.inr ⟨k, hk, h2⟩)))
    ·exact .inr h2
   ·rw [if_neg e] at h
    exact .inl (.inr (.inr (.inr ⟨i, hi', h⟩)))
 ·exact g5 a ha (fun e => hna (.inl e)) (fun e => hna (.inr (.inl (by rw [hSl, e]; rfl)))) (fun e => hna (.inr (.inr (.inr ⟨k, hk, e⟩))))
theorem acqT_hit {t : Tb} {r : Rq} (h : hit r.nm t.lk) : acqT t r = acqL t (pos r.nm t.lk) r := if_pos h
theorem acqT_no {t : Tb} {r : Rq} (h : ¬ hit r.nm t.lk) (h4 : t.lk.length = 4) : acqT t r = (t, bareA 6) := by unfold acqT; rw [if_neg h, if_pos h4]
theorem acqT_new {t : Tb} {r : Rq} (h : ¬ hit r.nm t.lk) (h4 : ¬ t.lk.length = 4) : acqT t r = (⟨t.tm, t.nx + 1, insL t.lk (pos r.nm t.lk) ⟨r.nm, t.nx, r.cl, t.tm + r.le, []⟩, t.sn⟩, ⟨1, t.nx, r.cl, t.tm + r.le⟩) := by unfold acqT; rw [if_neg h, if_neg h4]
def An.V (a : An) : List V := [.int .i64 a.kd, .int .i64 a.tk, .int .i64 a.hd, .int .i64 a.ex]
theorem set_mid {α : Type} {A B : List α} {x y : α} {k : Nat} (h : A.length = k) : (A ++ x :: B).set k y = A ++ y :: B := by
 subst h; rw [List.set_append_right _ _ (Nat.le_refl _), Nat.sub_self]; rfl
theorem get_mid {α : Type} {A B : List α} {x : α} {k : Nat} (h : A.length = k) : (A ++ x :: B)[k]? = some x := by
 subst h; rw [List.getElem?_append_right (Nat.le_refl _), Nat.sub_self]; rfl
structure Bd (t : Tb) (r : Rq) : Prop where
 srt : Srt t.lk
 l4 : t.lk.length ≤ 4
 w4 : ∀ i, i < t.lk.length → (t.lk.getD i Lk0).ws.length ≤ 4
 wl : ∀ j, j < t.lk.length → ∀ i, i < (t.lk.getD j Lk0).ws.length → 1 ≤ ((t.lk.getD j Lk0).ws.getD i (0, 0)).2 ∧ ((t.lk.getD j Lk0).ws.getD i (0, 0)).2 ≤ 1000
 tm : 0 ≤ t.tm ∧ t.tm ≤ 1000000000
 nx : 0 ≤ t.nx ∧ t.nx ≤ 999990
 cl : 0 ≤ r.cl ∧ r.cl ≤ 255
 le : 0 ≤ r.le ∧ r.le ≤ 1000
theorem o134h (t : Tb) (r : Rq) (bd : Bd t r) (hh : hit r.nm t.lk) {k : Nat} (hp : pos r.nm t.lk = k) {id lb : Nat} {Ss : V} {W : Nat → V} {h : Heap} {n : Nat} (T : TabM t id (.view lb 0 t.lk.length) Ss W h n) : OpenM En 134 [.ptr id 0 0, .agg [.int .i64 r.cl, .int .i64 r.st, .int .i64 r.kd, .int .i64 r.le, .str r.nm]] h n (fun v g m => v = .agg (acqT t r).2.V ∧ TabS (acqT t r).1 id (OwnT id (.view lb 0 t.lk.length) Ss W t.lk.length) n h g m) := by
 have hid := T.idn
 have kid := T.kid
 have hl4 := bd.l4; have htm := bd.tm; have hnx := bd.nx; have hcl := bd.cl; have hle := bd.le
 have hf := fun (h : Heap) (n : Nat) (T : TabM t id (.view lb 0 t.lk.length) Ss W h n) => o48y t W r.nm bd.srt (by omega) hh T
 rw [hp] at hf
 have hk : k < t.lk.length := by rw [← hp]; exact hh.1
 have hR : k < (rwW t.lk W).length := by rw [rwW_len]; exact hk
 have hw4 := bd.w4 k hk
 have klb : h lb = some ⟨rwW t.lk W, 5, 29⟩ := by
  rcases T.kl with ⟨e, _⟩ | ⟨b, e, q⟩
  ·cases e
  ·injection e with e1 e2 e3; rw [e1]; exact q
 have hlb := T.fl lb rfl
 have hne := hlb.2
 have hkw := T.kw k hk
 have hfw := fun a ha => (T.fw k a hk ha)
 have hfw := fun a ha => (⟨(hfw a ha).1, (hfw a ha).2.1, fun e => (hfw a ha).2.2.1 (by rw [e]; rfl)⟩ : a < n ∧ a ≠ id ∧ a ≠ lb)
 have hrow := rwW_get (W := W) hk
 generalize hl : t.lk.getD k Lk0 = l at hkw hrow hw4
 generalize hwk : W k = w at hkw hrow hfw
 have hwc := hkw.cell
 unfold Lk.V at hrow
 rcases hkw with ⟨rfl, hws⟩ | ⟨wb, pre, hw, kwb⟩
 ·have hkw : IsL h .nsl (l.ws.map wtV) 2 123 := .inl ⟨rfl, hws⟩
  have hwz : l.ws.length = 0 := by rw [List.map_eq_nil_iff.1 hws]; rfl
  refine OpenM.of_wp Try.func134 rfl (Nat.le_of_ble_eq_true rfl) ?_
  refine wSeq (wRegion (rbx (u := .agg [.int _ _, .int _ _, .int _ _, .int _ _, .str _]) rfl rfl rfl rfl rfl rfl rfl (ral rfl rfl rfl rfl rfl rfl (rNil (qSeq (wSeq (wRegion (rmP rfl rfl rfl rfl rfl (rfa (off := 4) (s := 1) (r := false) rfl rfl rfl (Nat.succ_ne_zero _) rfl rfl rfl ?_)))))))))
  (apply rlc (v := .str _) rfl rfl; exact Q0; exact Q1; rfl; rfl; rfl; rfl; rfl)
  refine rop (hf _ _ (T.ext (by omega) (fun a ha => by (simp (disch := (first | omega | assumption)) only [↓appC, ↓updN, ↓updS, ↓app0])))) rfl rfl rfl rfl rfl rfl ?_
  refine rmT rfl rfl rfl rfl rfl (rex rfl rfl rfl rfl rfl rfl (rex rfl rfl rfl rfl rfl rfl (raI rfl rfl rfl rfl rfl (raB rfl rfl rfl rfl rfl (rNil (qSeq (wSeq (wSeq (wRegion (rmB rfl rfl rfl rfl rfl (rnot (c := true) rfl rfl rfl rfl rfl (rNil ?_))))))))))))
  refine qSeq (wF rfl (wSkip (qSeq (wSeq (wRegion (rmP rfl rfl rfl rfl rfl (rnc (v := .ptr _ _ _) rfl rfl rfl rfl rfl rfl (rfa (off := 2) (s := 1) (r := false) rfl rfl rfl (Nat.succ_ne_zero _) rfl rfl rfl ?_))))))))
  (apply rlc (v := .view _ _ _) rfl rfl; exact Q0; exact Q1; rfl; rfl; rfl; rfl; rfl)
  refine rmI rfl rfl rfl rfl rfl ?_
  (refine r0 ((op_index_view (b := ⟨rwW t.lk W, 5, 29⟩) rfl rfl rfl rfl (by exact Q0) rfl (by omega) (by omega)).to (v' := .ptr (lb) k 0) (by rw [toNat0])) rfl rfl rfl ?_)
  refine raP rfl rfl rfl rfl rfl (rNil (qSeq (wSeq (wBlock (wSeq (wDraw [0, 1, 3, 7, 0, 16, 63, 127, 255, 511, 1023, 255, 2303, 8191, 16383, 32767, 65535] rfl (by decide +kernel) ?_))))))
  refine dmP rfl rfl rfl rfl rfl (dnc (v := .ptr _ _ _) rfl rfl rfl rfl rfl rfl (dfa (off := 2) (s := 1) (r := false) rfl rfl rfl (Nat.succ_ne_zero _) rfl rfl rfl ?_))
  (apply dlc (v := .int _ _) rfl rfl; exact Q0; exact Q1; rfl; rfl; rfl; rfl; rfl)
  refine dfa (off := 0) (s := 1) (r := false) rfl rfl rfl (Nat.succ_ne_zero _) rfl rfl rfl ?_
  (apply dlc (v := .int _ _) rfl rfl; exact Q0; exact Q1; rfl; rfl; rfl; rfl; rfl)
  refine deq rfl rfl rfl rfl rfl rfl ?_ ?_ <;> intro h7_6
  ·refine dmB rfl rfl rfl rfl rfl (dSkip rfl rfl rfl (dSkip rfl rfl rfl (dSkip rfl rfl rfl (dSkip rfl rfl rfl (dSkip rfl rfl rfl (dSkip rfl rfl rfl (dSkip rfl rfl rfl (dpk (e := true) rfl rfl rfl rfl rfl rfl (daB rfl rfl rfl rfl rfl (dNilR 17 [0, 0, 0, 0, 0, 0, 0, 0, 0, 0, 0, 1, 0, 1, 0, 0, 0] [] rfl rfl (by decide +kernel) trivial ?_))))))))))
   refine qSeq (wT rfl (wSeq (wRegion (rmP rfl rfl rfl rfl rfl (rop (o136 l.nm l.tk l.hd l.ex 8 V.nsl (lb := lb) (j := k) (R := (rwW t.lk W)) ?_ ?_ ?_) rfl rfl rfl rfl rfl rfl ?_)))))
   ·exact Q15
   ·exact Q15
   ·exact Q15
   (apply rst (u := .agg [.int _ _, .int _ _, .int _ _, .int _ _]) rfl rfl rfl; exact Q0; exact Q1; rfl; rfl; rfl; rfl; (exact Nat.le_of_ble_eq_true rfl); rfl; rfl; rfl)
   refine rNil (qSeq (wRet (qBlockR (qSeqR (finM (resL_cons (resV_row rfl (by exact Q0) rfl rfl (Nat.le_of_ble_eq_true rfl) rfl) resL_nil) (by (repeat first | exact Ch.refl _ | refine Ch.upd ?_ | refine Ch.app ?_ | assumption)) ?_)))))
   have e : acqT t r = (t, tellL 8 l) := by
    rw [acqT_hit hh, hp]; unfold acqL; rw [hl]; exact if_pos (by first | exact .inl h7_6 | exact .inr h7_14)
   rw [e]
   exact ⟨rfl, T.same (by omega) (fun a ha => by (simp (disch := (first | omega | assumption)) only [↓appC, ↓updN, ↓updS, ↓app0]))⟩
  ·refine dmB rfl rfl rfl rfl rfl (dmP rfl rfl rfl rfl rfl (dnc (v := .ptr _ _ _) rfl rfl rfl rfl rfl rfl ?_))
   (apply dlr (vs := [.str _, .int _ _, .int _ _, .int _ _, _]) rfl rfl; exact Q0; exact Q1; rfl; (exact Nat.le_of_ble_eq_true rfl); rfl; rfl; rfl; rfl)
   refine dfa (off := 0) (s := 1) (r := false) rfl rfl rfl (Nat.succ_ne_zero _) rfl rfl rfl ?_
   (apply dlc (v := .int _ _) rfl rfl; exact Q0; exact Q1; rfl; rfl; rfl; rfl; rfl)
   apply dclS [lb] (p66 l false r.cl (by omega)) rfl rfl rfl
   ·exact SnapL.cons _ _ _ _ (SnapC.agg (.cons _ _ _ _ (.str _) (.cons _ _ _ _ (.int _ _) (.cons _ _ _ _ (.int _ _) (.cons _ _ _ _ (.int _ _) (.cons _ _ _ _ (snapIsL (hkw.mono (fun a ha => by have q := hfw a ha; (simp (disch := (first | omega | assumption)) only [↓appC, ↓updN, ↓updS, ↓app0]))) (fun a ha => by cases ha)) .nil)))))) (SnapL.cons _ _ _ _ (.one _ _ (.int _ _)) SnapL.nil)
   ·rfl
   ·rfl
   ·rfl
   refine dge rfl rfl rfl rfl rfl rfl ?_ ?_ <;> intro h7_14
   ·refine dpk (e := true) rfl rfl rfl rfl rfl rfl (daB rfl rfl rfl rfl rfl (dNilR 17 [0, 0, 0, 1, 1, 0, 1, 0, 0, 0, 0, 1, 0, 1, 0, 0, 0] [] rfl rfl (by decide +kernel) trivial ?_))
    refine qSeq (wT rfl (wSeq (wRegion (rmP rfl rfl rfl rfl rfl (rop (o136 l.nm l.tk l.hd l.ex 8 V.nsl (lb := lb) (j := k) (R := (rwW t.lk W)) ?_ ?_ ?_) rfl rfl rfl rfl rfl rfl ?_)))))
    ·exact Q15
    ·exact Q15
    ·exact Q15
    (apply rst (u := .agg [.int _ _, .int _ _, .int _ _, .int _ _]) rfl rfl rfl; exact Q0; exact Q1; rfl; rfl; rfl; rfl; (exact Nat.le_of_ble_eq_true rfl); rfl; rfl; rfl)
    refine rNil (qSeq (wRet (qBlockR (qSeqR (finM (resL_cons (resV_row rfl (by exact Q0) rfl rfl (Nat.le_of_ble_eq_true rfl) rfl) resL_nil) (by (repeat first | exact Ch.refl _ | refine Ch.upd ?_ | refine Ch.app ?_ | assumption)) ?_)))))
    have e : acqT t r = (t, tellL 8 l) := by
     rw [acqT_hit hh, hp]; unfold acqL; rw [hl]; exact if_pos (by first | exact .inl h7_6 | exact .inr h7_14)
    rw [e]
    exact ⟨rfl, T.same (by omega) (fun a ha => by (simp (disch := (first | omega | assumption)) only [↓appC, ↓updN, ↓updS, ↓app0]))⟩
   ·refine dpk (e := false) rfl rfl rfl rfl rfl rfl (daB rfl rfl rfl rfl rfl (dNilR 17 [0, 0, 0, 1, 1, 0, 1, 0, 0, 0, 0, 1, 0, 1, 0, 0, 0] [] rfl rfl (by decide +kernel) trivial ?_))
    refine qSeq (wF rfl (wSeq (wRegion (rmP rfl rfl rfl rfl rfl (rnc (v := .ptr _ _ _) rfl rfl rfl rfl rfl rfl (rfa (off := 2) (s := 1) (r := false) rfl rfl rfl (Nat.succ_ne_zero _) rfl rfl rfl ?_))))))
    (apply rlc (v := .int _ _) rfl rfl; exact Q0; exact Q1; rfl; rfl; rfl; rfl; rfl)
    refine req rfl rfl rfl rfl rfl rfl ?_ ?_ <;> intro h9_4
    ·refine raB rfl rfl rfl rfl rfl (rNil (qSeq (wT rfl (wSeq (wRegion (rmP rfl rfl rfl rfl rfl (rmP rfl rfl rfl rfl rfl (rfa (off := 0) (s := 1) (r := false) rfl rfl rfl (Nat.succ_ne_zero _) rfl rfl rfl ?_))))))))
     (apply rlc (v := .int _ _) rfl rfl; exact Q0; exact Q1; rfl; rfl; rfl; rfl; rfl)
     refine rfa (off := 3) (s := 1) (r := false) rfl rfl rfl (Nat.succ_ne_zero _) rfl rfl rfl ?_
     (apply rlc (v := .int _ _) rfl rfl; exact Q0; exact Q1; rfl; rfl; rfl; rfl; rfl)
     refine rop (o125 l.nm l.tk l.hd l.ex t.tm t.nx r.cl r.le V.nsl (.view lb 0 t.lk.length) Ss hwc htm (by omega) hle (id := id) (lb := lb) (j := k) (R := rwW t.lk W) ?_ ?_ ?_ ?_ ?_ ?_ ?_) rfl rfl rfl rfl rfl rfl ?_
     ·exact Q15
     ·exact Q15
     ·exact Q15
     ·exact Q15
     ·exact Q15
     ·exact Q15
     ·exact Q15
     refine rNil (qSeq (wSeq (wRegion (rmP rfl rfl rfl rfl rfl (rop (o136 l.nm t.nx r.cl (t.tm + r.le) 1 V.nsl (lb := lb) (j := k) (R := ((rwW t.lk W).set k [.str l.nm, .int .i64 t.nx, .int .i64 r.cl, .int .i64 (t.tm + r.le), V.nsl])) ?_ ?_ ?_) rfl rfl rfl rfl rfl rfl ?_)))))
     ·exact Q15
     ·exact Q15
     ·exact Q15
     (apply rst (u := .agg [.int _ _, .int _ _, .int _ _, .int _ _]) rfl rfl rfl; exact Q0; exact Q1; rfl; rfl; rfl; rfl; (exact Nat.le_of_ble_eq_true rfl); rfl; rfl; rfl)
     refine rNil (qSeq (wRet (qBlockR (qSeqR (finM (resL_cons (resV_row rfl (by exact Q0) rfl rfl (Nat.le_of_ble_eq_true rfl) rfl) resL_nil) (by (repeat first | exact Ch.refl _ | refine Ch.upd ?_ | refine Ch.app ?_ | assumption)) ?_)))))
     have e : acqT t r = (⟨t.tm, t.nx + 1, t.lk.set k ⟨l.nm, t.nx, r.cl, t.tm + r.le, l.ws⟩, t.sn⟩, ⟨1, t.nx, r.cl, t.tm + r.le⟩) := by
      rw [acqT_hit hh, hp]; unfold acqL; rw [hl, if_neg (fun e => e.elim h7_6 h7_14), if_pos h9_4]
     rw [e]
     refine ⟨rfl, T.lockS hk rfl ⟨l.nm, t.nx, r.cl, t.tm + r.le, l.ws⟩ V.nsl (t.nx + 1) (by omega) ?_ ?_ ?_ ?_ ?_⟩
     ·exact Q0
     ·(simp (disch := (first | omega | assumption)) only [↓appC, ↓updN, ↓updS, ↓app0]); rfl
     ·exact hkw.mono (fun a ha => by have q := hfw a ha; have q1 := q.1; have q2 := q.2.1; have q3 := q.2.2; (simp (disch := (first | omega | assumption)) only [↓appC, ↓updN, ↓updS, ↓app0]))
     ·intro a ha; have q := hfw a ha; exact ⟨by omega, .inl (by rw [hwk]; exact ha)⟩
     ·intro a ha h1 h2 h3; (simp (disch := (first | omega | assumption)) only [↓appC, ↓updN, ↓updS, ↓app0])
    ·refine raB rfl rfl rfl rfl rfl (rNil (qSeq (wF rfl (wSeq (wRegion (rmP rfl rfl rfl rfl rfl (rnc (v := .ptr _ _ _) rfl rfl rfl rfl rfl rfl (rfa (off := 4) (s := 1) (r := false) rfl rfl rfl (Nat.succ_ne_zero _) rfl rfl rfl ?_))))))))
     (apply rlc (v := .nsl) rfl rfl; exact Q0; exact Q1; rfl; rfl; rfl; rfl; rfl)
     refine rll rfl rfl rfl rfl rfl rfl ?_
     refine req rfl rfl rfl rfl rfl rfl ?_ ?_ <;> intro h12_5
     ·refine raB rfl rfl rfl rfl rfl (rNil (qSeq (wT rfl (wSeq (wRegion (rmP rfl rfl rfl rfl rfl (rop (o136 l.nm l.tk l.hd l.ex 6 V.nsl (lb := lb) (j := k) (R := (rwW t.lk W)) ?_ ?_ ?_) rfl rfl rfl rfl rfl rfl ?_)))))))
      ·exact Q15
      ·exact Q15
      ·exact Q15
      (apply rst (u := .agg [.int _ _, .int _ _, .int _ _, .int _ _]) rfl rfl rfl; exact Q0; exact Q1; rfl; rfl; rfl; rfl; (exact Nat.le_of_ble_eq_true rfl); rfl; rfl; rfl)
      refine rNil (qSeq (wRet (qBlockR (qSeqR (finM (resL_cons (resV_row rfl (by exact Q0) rfl rfl (Nat.le_of_ble_eq_true rfl) rfl) resL_nil) (by (repeat first | exact Ch.refl _ | refine Ch.upd ?_ | refine Ch.app ?_ | assumption)) ?_)))))
      have e : acqT t r = (t, tellL 6 l) := by
       rw [acqT_hit hh, hp]; unfold acqL; rw [hl, if_neg (fun e => e.elim h7_6 h7_14), if_neg h9_4]; exact if_pos (by omega)
      rw [e]
      exact ⟨rfl, T.same (by omega) (fun a ha => by (simp (disch := (first | omega | assumption)) only [↓appC, ↓updN, ↓updS, ↓app0]))⟩
     ·refine raB rfl rfl rfl rfl rfl (rNil (qSeq (wF rfl (wSkip (qBlock (qSeq (wSeq (wDraw [0, 0, 2, 6, 14, 0, 32, 0, 128, 480, 992, 2046, 4095, 8191, 16383] rfl (by decide +kernel) ?_))))))))
      refine dmP rfl rfl rfl rfl rfl (dmP rfl rfl rfl rfl rfl (dnc (v := .ptr _ _ _) rfl rfl rfl rfl rfl rfl (dfa (off := 4) (s := 1) (r := false) rfl rfl rfl (Nat.succ_ne_zero _) rfl rfl rfl ?_)))
      (apply dlc (v := .nsl) rfl rfl; exact Q0; exact Q1; rfl; rfl; rfl; rfl; rfl)
      refine dfa (off := 0) (s := 1) (r := false) rfl rfl rfl (Nat.succ_ne_zero _) rfl rfl rfl ?_
      (apply dlc (v := .int _ _) rfl rfl; exact Q0; exact Q1; rfl; rfl; rfl; rfl; rfl)
      refine dfa (off := 3) (s := 1) (r := false) rfl rfl rfl (Nat.succ_ne_zero _) rfl rfl rfl ?_
      (apply dlc (v := .int _ _) rfl rfl; exact Q0; exact Q1; rfl; rfl; rfl; rfl; rfl)
      refine dbd (cs := [.int _ _, .int _ _]) rfl rfl rfl rfl rfl (dbs (es := [[.int _ _, .int _ _]]) rfl rfl rfl rfl (Nat.succ_ne_zero _) (Nat.le_of_ble_eq_true rfl) rfl rfl rfl rfl rfl ?_)
      (apply dan (s' := 16) (es := [[.int _ _, .int _ _]]) rfl rfl rfl rfl (Nat.succ_ne_zero _); exact Q30; exact Q22; exact Q14; exact Q14; exact Q14; rfl; rfl; rfl)
      refine dnc (v := .ptr _ _ _) rfl rfl rfl rfl rfl rfl (dfa (off := 4) (s := 1) (r := false) rfl rfl rfl (Nat.succ_ne_zero _) rfl rfl rfl ?_)
      (apply dst (u := .view _ _ _) rfl rfl rfl; exact Q0; exact Q1; rfl; rfl; rfl; rfl; (exact Nat.le_of_ble_eq_true rfl); rfl; rfl; rfl)
      refine dNilR 15 [3, 0, 0, 3, 3, 0, 1, 0, 1, 0, 1, 0, 0, 0, 0] [(4, 10)] rfl rfl (by decide +kernel) ?_ ?_
      ·(simp [ClearL, ids]; try omega)
      refine qSeq (wSeq (wRegion (rmP rfl rfl rfl rfl rfl (rop (o136 l.nm l.tk l.hd l.ex 2 (V.view (n + 1 + 1 + t.lk.length + 1 + 1) 0 1) (lb := lb) (j := k) (R := (rwW t.lk W).set k [.str l.nm, .int .i64 l.tk, .int .i64 l.hd, .int .i64 l.ex, (V.view (n + 1 + 1 + t.lk.length + 1 + 1) 0 1)]) ?_ ?_ (List.getElem?_set_self hR)) rfl rfl rfl rfl rfl rfl ?_))))
      ·exact Q15
      ·exact Q15
      (apply rst (u := .agg [.int _ _, .int _ _, .int _ _, .int _ _]) rfl rfl rfl; exact Q0; exact Q1; rfl; rfl; rfl; rfl; (exact Nat.le_of_ble_eq_true rfl); rfl; rfl; rfl)
      refine rNil (qSeq (wRet (finM (resL_cons (resV_row rfl (by exact Q0) rfl rfl (Nat.le_of_ble_eq_true rfl) rfl) resL_nil) (by (repeat first | exact Ch.refl _ | refine Ch.upd ?_ | refine Ch.app ?_ | assumption)) ?_)))
      have e : acqT t r = (⟨t.tm, t.nx, t.lk.set k ⟨l.nm, l.tk, l.hd, l.ex, l.ws ++ [(r.cl, r.le)]⟩, t.sn⟩, tellL 2 l) := by
       rw [acqT_hit hh, hp]; unfold acqL; rw [hl, if_neg (fun e => e.elim h7_6 h7_14), if_neg h9_4]; exact if_neg (by omega)
      rw [e]
      refine ⟨rfl, T.lockS hk rfl ⟨l.nm, l.tk, l.hd, l.ex, l.ws ++ [(r.cl, r.le)]⟩ (V.view (n + 1 + 1 + t.lk.length + 1 + 1) 0 1) t.nx (by omega) ?_ ?_ ?_ ?_ ?_⟩
      ·exact Q0
      ·(simp (disch := (first | omega | assumption)) only [↓appC, ↓updN, ↓updS, ↓app0]); rfl
      ·refine .inr ⟨n + 1 + 1 + t.lk.length + 1 + 1, [], by simp [List.map_eq_nil_iff.1 hws], ?_⟩
       (simp (disch := (first | omega | assumption)) only [↓appC, ↓updN, ↓updS, ↓app0])
       exact congrArg (fun z => some (Blk.mk z 2 123)) (by simp [List.map_eq_nil_iff.1 hws, wtV])
      ·intro a ha; cases ha; exact ⟨by omega, .inr (by omega)⟩
      ·intro a ha h1 h2 h3; (simp (disch := (first | omega | assumption)) only [↓appC, ↓updN, ↓updS, ↓app0])
 ·rw [List.length_map] at hw
  subst hw
  have hwb := hfw wb rfl
  have hkw : IsL h (.view wb pre.length l.ws.length) (l.ws.map wtV) 2 123 := .inr ⟨wb, pre, by rw [List.length_map], kwb⟩
  refine OpenM.of_wp Try.func134 rfl (Nat.le_of_ble_eq_true rfl) ?_
  refine wSeq (wRegion (rbx (u := .agg [.int _ _, .int _ _, .int _ _, .int _ _, .str _]) rfl rfl rfl rfl rfl rfl rfl (ral rfl rfl rfl rfl rfl rfl (rNil (qSeq (wSeq (wRegion (rmP rfl rfl rfl rfl rfl (rfa (off := 4) (s := 1) (r := false) rfl rfl rfl (Nat.succ_ne_zero _) rfl rfl rfl ?_)))))))))
  (apply rlc (v := .str _) rfl rfl; exact Q0; exact Q1; rfl; rfl; rfl; rfl; rfl)
  refine rop (hf _ _ (T.ext (by omega) (fun a ha => by (simp (disch := (first | omega | assumption)) only [↓appC, ↓updN, ↓updS, ↓app0])))) rfl rfl rfl rfl rfl rfl ?_
  refine rmT rfl rfl rfl rfl rfl (rex rfl rfl rfl rfl rfl rfl (rex rfl rfl rfl rfl rfl rfl (raI rfl rfl rfl rfl rfl (raB rfl rfl rfl rfl rfl (rNil (qSeq (wSeq (wSeq (wRegion (rmB rfl rfl rfl rfl rfl (rnot (c := true) rfl rfl rfl rfl rfl (rNil ?_))))))))))))
  refine qSeq (wF rfl (wSkip (qSeq (wSeq (wRegion (rmP rfl rfl rfl rfl rfl (rnc (v := .ptr _ _ _) rfl rfl rfl rfl rfl rfl (rfa (off := 2) (s := 1) (r := false) rfl rfl rfl (Nat.succ_ne_zero _) rfl rfl rfl ?_))))))))
  (apply rlc (v := .view _ _ _) rfl rfl; exact Q0; exact Q1; rfl; rfl; rfl; rfl; rfl)
  refine rmI rfl rfl rfl rfl rfl ?_
  (refine r0 ((op_index_view (b := ⟨rwW t.lk W, 5, 29⟩) rfl rfl rfl rfl (by exact Q0) rfl (by omega) (by omega)).to (v' := .ptr (lb) k 0) (by rw [toNat0])) rfl rfl rfl ?_)
  refine raP rfl rfl rfl rfl rfl (rNil (qSeq (wSeq (wBlock (wSeq (wDraw [0, 1, 3, 7, 0, 16, 63, 127, 255, 511, 1023, 255, 2303, 8191, 16383, 32767, 65535] rfl (by decide +kernel) ?_))))))
  refine dmP rfl rfl rfl rfl rfl (dnc (v := .ptr _ _ _) rfl rfl rfl rfl rfl rfl (dfa (off := 2) (s := 1) (r := false) rfl rfl rfl (Nat.succ_ne_zero _) rfl rfl rfl ?_))
  (apply dlc (v := .int _ _) rfl rfl; exact Q0; exact Q1; rfl; rfl; rfl; rfl; rfl)
  refine dfa (off := 0) (s := 1) (r := false) rfl rfl rfl (Nat.succ_ne_zero _) rfl rfl rfl ?_
  (apply dlc (v := .int _ _) rfl rfl; exact Q0; exact Q1; rfl; rfl; rfl; rfl; rfl)
  refine deq rfl rfl rfl rfl rfl rfl ?_ ?_ <;> intro h7_6
  ·refine dmB rfl rfl rfl rfl rfl (dSkip rfl rfl rfl (dSkip rfl rfl rfl (dSkip rfl rfl rfl (dSkip rfl rfl rfl (dSkip rfl rfl rfl (dSkip rfl rfl rfl (dSkip rfl rfl rfl (dpk (e := true) rfl rfl rfl rfl rfl rfl (daB rfl rfl rfl rfl rfl (dNilR 17 [0, 0, 0, 0, 0, 0, 0, 0, 0, 0, 0, 1, 0, 1, 0, 0, 0] [] rfl rfl (by decide +kernel) trivial ?_))))))))))
   refine qSeq (wT rfl (wSeq (wRegion (rmP rfl rfl rfl rfl rfl (rop (o136 l.nm l.tk l.hd l.ex 8 (V.view wb pre.length l.ws.length) (lb := lb) (j := k) (R := (rwW t.lk W)) ?_ ?_ ?_) rfl rfl rfl rfl rfl rfl ?_)))))
   ·exact Q15
   ·exact Q15
   ·exact Q15
   (apply rst (u := .agg [.int _ _, .int _ _, .int _ _, .int _ _]) rfl rfl rfl; exact Q0; exact Q1; rfl; rfl; rfl; rfl; (exact Nat.le_of_ble_eq_true rfl); rfl; rfl; rfl)
   refine rNil (qSeq (wRet (qBlockR (qSeqR (finM (resL_cons (resV_row rfl (by exact Q0) rfl rfl (Nat.le_of_ble_eq_true rfl) rfl) resL_nil) (by (repeat first | exact Ch.refl _ | refine Ch.upd ?_ | refine Ch.app ?_ | assumption)) ?_)))))
   have e : acqT t r = (t, tellL 8 l) := by
    rw [acqT_hit hh, hp]; unfold acqL; rw [hl]; exact if_pos (by first | exact .inl h7_6 | exact .inr h7_14)
   rw [e]
   exact ⟨rfl, T.same (by omega) (fun a ha => by (simp (disch := (first | omega | assumption)) only [↓appC, ↓updN, ↓updS, ↓app0]))⟩
  ·refine dmB rfl rfl rfl rfl rfl (dmP rfl rfl rfl rfl rfl (dnc (v := .ptr _ _ _) rfl rfl rfl rfl rfl rfl ?_))
   (apply dlr (vs := [.str _, .int _ _, .int _ _, .int _ _, _]) rfl rfl; exact Q0; exact Q1; rfl; (exact Nat.le_of_ble_eq_true rfl); rfl; rfl; rfl; rfl)
   refine dfa (off := 0) (s := 1) (r := false) rfl rfl rfl (Nat.succ_ne_zero _) rfl rfl rfl ?_
   (apply dlc (v := .int _ _) rfl rfl; exact Q0; exact Q1; rfl; rfl; rfl; rfl; rfl)
   apply dclS [wb] (p66 l false r.cl (by omega)) rfl rfl rfl
   ·exact SnapL.cons _ _ _ _ (SnapC.agg (.cons _ _ _ _ (.str _) (.cons _ _ _ _ (.int _ _) (.cons _ _ _ _ (.int _ _) (.cons _ _ _ _ (.int _ _) (.cons _ _ _ _ (snapIsL (hkw.mono (fun a ha => by have q := hfw a ha; (simp (disch := (first | omega | assumption)) only [↓appC, ↓updN, ↓updS, ↓app0]))) (fun a ha => by cases ha; exact List.mem_singleton.2 rfl)) .nil)))))) (SnapL.cons _ _ _ _ (.one _ _ (.int _ _)) SnapL.nil)
   ·rfl
   ·rfl
   ·rfl
   refine dge rfl rfl rfl rfl rfl rfl ?_ ?_ <;> intro h7_14
   ·refine dpk (e := true) rfl rfl rfl rfl rfl rfl (daB rfl rfl rfl rfl rfl (dNilR 17 [0, 0, 0, 1, 1, 0, 1, 0, 0, 0, 0, 1, 0, 1, 0, 0, 0] [] rfl rfl (by decide +kernel) trivial ?_))
    refine qSeq (wT rfl (wSeq (wRegion (rmP rfl rfl rfl rfl rfl (rop (o136 l.nm l.tk l.hd l.ex 8 (V.view wb pre.length l.ws.length) (lb := lb) (j := k) (R := (rwW t.lk W)) ?_ ?_ ?_) rfl rfl rfl rfl rfl rfl ?_)))))
    ·exact Q15
    ·exact Q15
    ·exact Q15
    (apply rst (u := .agg [.int _ _, .int _ _, .int _ _, .int _ _]) rfl rfl rfl; exact Q0; exact Q1; rfl; rfl; rfl; rfl; (exact Nat.le_of_ble_eq_true rfl); rfl; rfl; rfl)
    refine rNil (qSeq (wRet (qBlockR (qSeqR (finM (resL_cons (resV_row rfl (by exact Q0) rfl rfl (Nat.le_of_ble_eq_true rfl) rfl) resL_nil) (by (repeat first | exact Ch.refl _ | refine Ch.upd ?_ | refine Ch.app ?_ | assumption)) ?_)))))
    have e : acqT t r = (t, tellL 8 l) := by
     rw [acqT_hit hh, hp]; unfold acqL; rw [hl]; exact if_pos (by first | exact .inl h7_6 | exact .inr h7_14)
    rw [e]
    exact ⟨rfl, T.same (by omega) (fun a ha => by (simp (disch := (first | omega | assumption)) only [↓appC, ↓updN, ↓updS, ↓app0]))⟩
   ·refine dpk (e := false) rfl rfl rfl rfl rfl rfl (daB rfl rfl rfl rfl rfl (dNilR 17 [0, 0, 0, 1, 1, 0, 1, 0, 0, 0, 0, 1, 0, 1, 0, 0, 0] [] rfl rfl (by decide +kernel) trivial ?_))
    refine qSeq (wF rfl (wSeq (wRegion (rmP rfl rfl rfl rfl rfl (rnc (v := .ptr _ _ _) rfl rfl rfl rfl rfl rfl (rfa (off := 2) (s := 1) (r := false) rfl rfl rfl (Nat.succ_ne_zero _) rfl rfl rfl ?_))))))
    (apply rlc (v := .int _ _) rfl rfl; exact Q0; exact Q1; rfl; rfl; rfl; rfl; rfl)
    refine req rfl rfl rfl rfl rfl rfl ?_ ?_ <;> intro h9_4
    ·refine raB rfl rfl rfl rfl rfl (rNil (qSeq (wT rfl (wSeq (wRegion (rmP rfl rfl rfl rfl rfl (rmP rfl rfl rfl rfl rfl (rfa (off := 0) (s := 1) (r := false) rfl rfl rfl (Nat.succ_ne_zero _) rfl rfl rfl ?_))))))))
     (apply rlc (v := .int _ _) rfl rfl; exact Q0; exact Q1; rfl; rfl; rfl; rfl; rfl)
     refine rfa (off := 3) (s := 1) (r := false) rfl rfl rfl (Nat.succ_ne_zero _) rfl rfl rfl ?_
     (apply rlc (v := .int _ _) rfl rfl; exact Q0; exact Q1; rfl; rfl; rfl; rfl; rfl)
     refine rop (o125 l.nm l.tk l.hd l.ex t.tm t.nx r.cl r.le (V.view wb pre.length l.ws.length) (.view lb 0 t.lk.length) Ss hwc htm (by omega) hle (id := id) (lb := lb) (j := k) (R := rwW t.lk W) ?_ ?_ ?_ ?_ ?_ ?_ ?_) rfl rfl rfl rfl rfl rfl ?_
     ·exact Q15
     ·exact Q15
     ·exact Q15
     ·exact Q15
     ·exact Q15
     ·exact Q15
     ·exact Q15
     refine rNil (qSeq (wSeq (wRegion (rmP rfl rfl rfl rfl rfl (rop (o136 l.nm t.nx r.cl (t.tm + r.le) 1 (V.view wb pre.length l.ws.length) (lb := lb) (j := k) (R := ((rwW t.lk W).set k [.str l.nm, .int .i64 t.nx, .int .i64 r.cl, .int .i64 (t.tm + r.le), (V.view wb pre.length l.ws.length)])) ?_ ?_ ?_) rfl rfl rfl rfl rfl rfl ?_)))))
     ·exact Q15
     ·exact Q15
     ·exact Q15
     (apply rst (u := .agg [.int _ _, .int _ _, .int _ _, .int _ _]) rfl rfl rfl; exact Q0; exact Q1; rfl; rfl; rfl; rfl; (exact Nat.le_of_ble_eq_true rfl); rfl; rfl; rfl)
     refine rNil (qSeq (wRet (qBlockR (qSeqR (finM (resL_cons (resV_row rfl (by exact Q0) rfl rfl (Nat.le_of_ble_eq_true rfl) rfl) resL_nil) (by (repeat first | exact Ch.refl _ | refine Ch.upd ?_ | refine Ch.app ?_ | assumption)) ?_)))))
     have e : acqT t r = (⟨t.tm, t.nx + 1, t.lk.set k ⟨l.nm, t.nx, r.cl, t.tm + r.le, l.ws⟩, t.sn⟩, ⟨1, t.nx, r.cl, t.tm + r.le⟩) := by
      rw [acqT_hit hh, hp]; unfold acqL; rw [hl, if_neg (fun e => e.elim h7_6 h7_14), if_pos h9_4]
     rw [e]
     refine ⟨rfl, T.lockS hk rfl ⟨l.nm, t.nx, r.cl, t.tm + r.le, l.ws⟩ (V.view wb pre.length l.ws.length) (t.nx + 1) (by omega) ?_ ?_ ?_ ?_ ?_⟩
     ·exact Q0
     ·(simp (disch := (first | omega | assumption)) only [↓appC, ↓updN, ↓updS, ↓app0]); rfl
     ·exact hkw.mono (fun a ha => by have q := hfw a ha; have q1 := q.1; have q2 := q.2.1; have q3 := q.2.2; (simp (disch := (first | omega | assumption)) only [↓appC, ↓updN, ↓updS, ↓app0]))
     ·intro a ha; have q := hfw a ha; exact ⟨by omega, .inl (by rw [hwk]; exact ha)⟩
     ·intro a ha h1 h2 h3; (simp (disch := (first | omega | assumption)) only [↓appC, ↓updN, ↓updS, ↓app0])
    ·refine raB rfl rfl rfl rfl rfl (rNil (qSeq (wF rfl (wSeq (wRegion (rmP rfl rfl rfl rfl rfl (rnc (v := .ptr _ _ _) rfl rfl rfl rfl rfl rfl (rfa (off := 4) (s := 1) (r := false) rfl rfl rfl (Nat.succ_ne_zero _) rfl rfl rfl ?_))))))))
     (apply rlc (v := .view _ _ _) rfl rfl; exact Q0; exact Q1; rfl; rfl; rfl; rfl; rfl)
     refine rll rfl rfl rfl rfl rfl rfl ?_
     refine req rfl rfl rfl rfl rfl rfl ?_ ?_ <;> intro h12_5
     ·refine raB rfl rfl rfl rfl rfl (rNil (qSeq (wT rfl (wSeq (wRegion (rmP rfl rfl rfl rfl rfl (rop (o136 l.nm l.tk l.hd l.ex 6 (V.view wb pre.length l.ws.length) (lb := lb) (j := k) (R := (rwW t.lk W)) ?_ ?_ ?_) rfl rfl rfl rfl rfl rfl ?_)))))))
      ·exact Q15
      ·exact Q15
      ·exact Q15
      (apply rst (u := .agg [.int _ _, .int _ _, .int _ _, .int _ _]) rfl rfl rfl; exact Q0; exact Q1; rfl; rfl; rfl; rfl; (exact Nat.le_of_ble_eq_true rfl); rfl; rfl; rfl)
      refine rNil (qSeq (wRet (qBlockR (qSeqR (finM (resL_cons (resV_row rfl (by exact Q0) rfl rfl (Nat.le_of_ble_eq_true rfl) rfl) resL_nil) (by (repeat first | exact Ch.refl _ | refine Ch.upd ?_ | refine Ch.app ?_ | assumption)) ?_)))))
      have e : acqT t r = (t, tellL 6 l) := by
       rw [acqT_hit hh, hp]; unfold acqL; rw [hl, if_neg (fun e => e.elim h7_6 h7_14), if_neg h9_4]; exact if_pos (by omega)
      rw [e]
      exact ⟨rfl, T.same (by omega) (fun a ha => by (simp (disch := (first | omega | assumption)) only [↓appC, ↓updN, ↓updS, ↓app0]))⟩
     ·refine raB rfl rfl rfl rfl rfl (rNil (qSeq (wF rfl (wSkip (qBlock (qSeq (wSeq (wDraw [0, 0, 2, 6, 14, 0, 32, 0, 128, 480, 992, 2046, 4095, 8191, 16383] rfl (by decide +kernel) ?_))))))))
      refine dmP rfl rfl rfl rfl rfl (dmP rfl rfl rfl rfl rfl (dnc (v := .ptr _ _ _) rfl rfl rfl rfl rfl rfl (dfa (off := 4) (s := 1) (r := false) rfl rfl rfl (Nat.succ_ne_zero _) rfl rfl rfl ?_)))
      (apply dlc (v := .view _ _ _) rfl rfl; exact Q0; exact Q1; rfl; rfl; rfl; rfl; rfl)
      refine dfa (off := 0) (s := 1) (r := false) rfl rfl rfl (Nat.succ_ne_zero _) rfl rfl rfl ?_
      (apply dlc (v := .int _ _) rfl rfl; exact Q0; exact Q1; rfl; rfl; rfl; rfl; rfl)
      refine dfa (off := 3) (s := 1) (r := false) rfl rfl rfl (Nat.succ_ne_zero _) rfl rfl rfl ?_
      (apply dlc (v := .int _ _) rfl rfl; exact Q0; exact Q1; rfl; rfl; rfl; rfl; rfl)
      refine dbd (cs := [.int _ _, .int _ _]) rfl rfl rfl rfl rfl (dbs (es := [[.int _ _, .int _ _]]) rfl rfl rfl rfl (Nat.succ_ne_zero _) (Nat.le_of_ble_eq_true rfl) rfl rfl rfl rfl rfl ?_)
      (apply dap (s' := 16) (es := [[.int _ _, .int _ _]]) rfl rfl; exact Q0; rfl; rfl; (first | rfl | omega | (show _ = (pre ++ l.ws.map wtV).length; rw [List.length_append, List.length_map]) | (show _ = (pre ++ l.ws.map wtV).length; rw [List.length_append])); rfl; rfl; exact (Nat.succ_ne_zero _); exact Q30; exact Q22; exact Q14; exact Q14; rfl; rfl; rfl)
      refine dnc (v := .ptr _ _ _) rfl rfl rfl rfl rfl rfl (dfa (off := 4) (s := 1) (r := false) rfl rfl rfl (Nat.succ_ne_zero _) rfl rfl rfl ?_)
      (apply dst (u := .view _ _ _) rfl rfl rfl; exact Q0; exact Q1; rfl; rfl; rfl; rfl; (exact Nat.le_of_ble_eq_true rfl); rfl; rfl; rfl)
      refine dNilR 15 [3, 0, 0, 3, 3, 0, 1, 0, 1, 0, 1, 0, 0, 0, 0] [(4, 10)] rfl rfl (by decide +kernel) ?_ ?_
      ·(simp [ClearL, ids]; try omega)
      refine qSeq (wSeq (wRegion (rmP rfl rfl rfl rfl rfl (rop (o136 l.nm l.tk l.hd l.ex 2 (V.view (n + 1 + 1 + t.lk.length + 1 + 1) 0 (l.ws.length + 1)) (lb := lb) (j := k) (R := (rwW t.lk W).set k [.str l.nm, .int .i64 l.tk, .int .i64 l.hd, .int .i64 l.ex, (V.view (n + 1 + 1 + t.lk.length + 1 + 1) 0 (l.ws.length + 1))]) ?_ ?_ (List.getElem?_set_self hR)) rfl rfl rfl rfl rfl rfl ?_))))
      ·exact Q15
      ·exact Q15
      (apply rst (u := .agg [.int _ _, .int _ _, .int _ _, .int _ _]) rfl rfl rfl; exact Q0; exact Q1; rfl; rfl; rfl; rfl; (exact Nat.le_of_ble_eq_true rfl); rfl; rfl; rfl)
      refine rNil (qSeq (wRet (finM (resL_cons (resV_row rfl (by exact Q0) rfl rfl (Nat.le_of_ble_eq_true rfl) rfl) resL_nil) (by (repeat first | exact Ch.refl _ | refine Ch.upd ?_ | refine Ch.app ?_ | assumption)) ?_)))
      have e : acqT t r = (⟨t.tm, t.nx, t.lk.set k ⟨l.nm, l.tk, l.hd, l.ex, l.ws ++ [(r.cl, r.le)]⟩, t.sn⟩, tellL 2 l) := by
       rw [acqT_hit hh, hp]; unfold acqL; rw [hl, if_neg (fun e => e.elim h7_6 h7_14), if_neg h9_4]; exact if_neg (by omega)
      rw [e]
      refine ⟨rfl, T.lockS hk rfl ⟨l.nm, l.tk, l.hd, l.ex, l.ws ++ [(r.cl, r.le)]⟩ (V.view (n + 1 + 1 + t.lk.length + 1 + 1) 0 (l.ws.length + 1)) t.nx (by omega) ?_ ?_ ?_ ?_ ?_⟩
      ·exact Q0
      ·(simp (disch := (first | omega | assumption)) only [↓appC, ↓updN, ↓updS, ↓app0]); rfl
      ·refine .inr ⟨n + 1 + 1 + t.lk.length + 1 + 1, [], by simp, ?_⟩
       (simp (disch := (first | omega | assumption)) only [↓appC, ↓updN, ↓updS, ↓app0])
       exact congrArg (fun z => some (Blk.mk z 2 123)) (by simp [wtV])
      ·intro a ha; cases ha; exact ⟨by omega, .inr (by omega)⟩
      ·intro a ha h1 h2 h3; have h4 : a ≠ wb := fun e => h3 (by rw [hwk, e]; rfl); (simp (disch := (first | omega | assumption)) only [↓appC, ↓updN, ↓updS, ↓app0])
open Go.V
set_option linter.unusedVariables false
set_option linter.unusedSimpArgs false
set_option maxRecDepth 20000
set_option maxHeartbeats 4000000
theorem pos_le (s : ByteArray) : ∀ L : List Lk, pos s L ≤ L.length
 | [] => Nat.le_refl _
 | l :: r => by
  have := pos_le s r
  unfold pos
  split <;> simp <;> omega
theorem rwW_five (L : List Lk) (W : Nat → V) : ∀ e ∈ rwW L W, e.length = 5 := fun e he => by
 obtain ⟨i, _, rfl⟩ := List.mem_map.1 he; rfl
theorem TabM.insS {t : Tb} {id : Nat} {Sl Ss : V} {W : Nat → V} {h g : Heap} {n m : Nat} (T : TabM t id Sl Ss W h n) {k : Nat} (hk : k ≤ t.lk.length) (l : Lk) (w : V) (nx : Int) (lb : Nat) (hnm : n ≤ m) (hlb : n ≤ lb ∧ lb < m)
  (g1 : g id = some ⟨[[.int .i64 t.tm, .int .i64 nx, .view lb 0 (t.lk.length + 1), Ss]], 4, 35⟩) (g2 : g lb = some ⟨(rwW t.lk W).take k ++ l.V w :: (rwW t.lk W).drop k, 5, 29⟩) (g3 : IsL g w (l.ws.map wtV) 2 123)
  (g4 : ∀ a, fpV w = some a → a < m ∧ n ≤ a ∧ a ≠ lb) (g5 : ∀ a, a < n → a ≠ id → fpV Sl ≠ some a → g a = h a) : TabS ⟨t.tm, nx, insL t.lk k l, t.sn⟩ id (OwnT id Sl Ss W t.lk.length) n h g m := by
 have hlen : (insL t.lk k l).length = t.lk.length + 1 := insL_len hk
 refine ⟨_, Ss, _, T.insLk hk l w nx lb hnm hlb g1 g2 g3 g4 (fun a o h1 h2 => g5 a (T.lt o) h1 h2), fun a o => ?_, fun a ha hna => g5 a ha (fun e => hna (.inl e)) (fun e => hna (.inr (.inl e))), hnm⟩
 rcases o with h | h | h | ⟨i, hi, h⟩
 ·exact .inl (.inl h)
 ·cases h; exact .inr hlb.1
 ·exact .inl (.inr (.inr (.inl h)))
 ·have hi' : i < t.lk.length + 1 := by rw [← hlen]; exact hi
  unfold insW at h
  by_cases h1 : i < k
  ·rw [if_pos h1] at h; exact .inl (.inr (.inr (.inr ⟨i, by omega, h⟩)))
  ·rw [if_neg h1] at h
   by_cases h2 : i = k
   ·rw [if_pos h2] at h; exact .inr (g4 a h).2.1
   ·rw [if_neg h2] at h; exact .inl (.inr (.inr (.inr ⟨i - 1, by omega, h⟩)))
theorem o134x (t : Tb) (r : Rq) (bd : Bd t r) (hh : ¬ hit r.nm t.lk) {k : Nat} (hp : pos r.nm t.lk = k) {id lb : Nat} {Ss : V} {W : Nat → V} {h : Heap} {n : Nat} (T : TabM t id (.view lb 0 t.lk.length) Ss W h n) : OpenM En 134 [.ptr id 0 0, .agg [.int .i64 r.cl, .int .i64 r.st, .int .i64 r.kd, .int .i64 r.le, .str r.nm]] h n (fun v g m => v = .agg (acqT t r).2.V ∧ TabS (acqT t r).1 id (OwnT id (.view lb 0 t.lk.length) Ss W t.lk.length) n h g m) := by
 have hid := T.idn
 have kid := T.kid
 have hl4 := bd.l4; have htm := bd.tm; have hnx := bd.nx; have hcl := bd.cl; have hle := bd.le
 have hf := fun (h : Heap) (n : Nat) (T : TabM t id (.view lb 0 t.lk.length) Ss W h n) => o48x t W r.nm bd.srt (by omega) hh T
 rw [hp] at hf
 have hk : k ≤ t.lk.length := by rw [← hp]; exact pos_le _ _
 have hI := fun vb h n => @o146z (rwW t.lk W) r.nm 0 (-1) 0 .nsl rfl k (by rw [rwW_len]; exact hk) (rwW_five _ _) (by rw [rwW_len]; omega) (.view lb 0 t.lk.length) vb h n
 rw [rwW_len] at hI
 simp only [idV, fpV, Option.getD_some, Option.getD_none] at hI
 have hsl := T.fl
 have hkl := T.kl
 have hA : ((rwW t.lk W).take k).length = k := by rw [List.length_take, rwW_len]; omega
 have hRI : k < ((rwW t.lk W).take k ++ [.str r.nm, .int .i64 0, .int .i64 (-1), .int .i64 0, .nsl] :: (rwW t.lk W).drop k).length := by rw [List.length_append, hA, List.length_cons]; omega
 have hrow : ((rwW t.lk W).take k ++ [.str r.nm, .int .i64 0, .int .i64 (-1), .int .i64 0, .nsl] :: (rwW t.lk W).drop k)[k]? = some [.str r.nm, .int .i64 0, .int .i64 (-1), .int .i64 0, .nsl] := get_mid hA
 have hlb := T.fl lb rfl
 have hne := hlb.2
 refine OpenM.of_wp Try.func134 rfl (Nat.le_of_ble_eq_true rfl) ?_
 refine wSeq (wRegion (rbx (u := .agg [.int _ _, .int _ _, .int _ _, .int _ _, .str _]) rfl rfl rfl rfl rfl rfl rfl (ral rfl rfl rfl rfl rfl rfl (rNil (qSeq (wSeq (wRegion (rmP rfl rfl rfl rfl rfl (rfa (off := 4) (s := 1) (r := false) rfl rfl rfl (Nat.succ_ne_zero _) rfl rfl rfl ?_)))))))))
 (apply rlc (v := .str _) rfl rfl; exact Q0; exact Q6; rfl; rfl; rfl; rfl; rfl)
 refine rop (hf _ _ (T.ext (by omega) (fun a ha => by (simp (disch := (first | omega | assumption)) only [↓appC, ↓updN, ↓updS, ↓app0])))) rfl rfl rfl rfl rfl rfl ?_
 refine rmT rfl rfl rfl rfl rfl (rex rfl rfl rfl rfl rfl rfl (rex rfl rfl rfl rfl rfl rfl (raI rfl rfl rfl rfl rfl (raB rfl rfl rfl rfl rfl (rNil (qSeq (wSeq (wSeq (wRegion (rmB rfl rfl rfl rfl rfl (rnot (c := false) rfl rfl rfl rfl rfl (rNil ?_))))))))))))
 refine qSeq (wT rfl (wSeq (wSeq (wRegion (rmP rfl rfl rfl rfl rfl (rnc (v := .ptr _ _ _) rfl rfl rfl rfl rfl rfl (rfa (off := 2) (s := 1) (r := false) rfl rfl rfl (Nat.succ_ne_zero _) rfl rfl rfl ?_)))))))
 (apply rlc (v := .view _ _ _) rfl rfl; exact Q0; exact Q6; rfl; rfl; rfl; rfl; rfl)
 refine rll rfl rfl rfl rfl rfl rfl ?_
 refine req rfl rfl rfl rfl rfl rfl ?_ ?_ <;> intro h3_5
 ·refine rNil (qSeq (wT rfl (wSeq (wRegion (rcl (p110 6) rfl rfl rfl rfl rfl rfl ?_)))))
  (apply rst (u := .agg [.int _ _, .int _ _, .int _ _, .int _ _]) rfl rfl rfl; exact Q0; exact Q6; rfl; rfl; rfl; rfl; (exact Nat.le_of_ble_eq_true rfl); rfl; rfl; rfl)
  refine rNil (qSeq (wRet (qSeqR (qSeqR (finM (resL_cons (resV_row rfl (by exact Q0) rfl rfl (Nat.le_of_ble_eq_true rfl) rfl) resL_nil) (by (repeat first | exact Ch.refl _ | refine Ch.upd ?_ | refine Ch.app ?_ | assumption)) ?_)))))
  rw [acqT_no hh (by omega)]
  exact ⟨rfl, T.same (by omega) (fun a ha => by (simp (disch := (first | omega | assumption)) only [↓appC, ↓updN, ↓updS, ↓app0]))⟩
 ·refine rNil (qSeq (wF rfl (wSkip (qSeq (wDraw [0, 0, 2, 6, 14, 0, 0, 64, 192, 448, 1022, 2047, 4095, 8191] rfl (by decide +kernel) ?_)))))
  refine dmP rfl rfl rfl rfl rfl (dmP rfl rfl rfl rfl rfl (dnc (v := .ptr _ _ _) rfl rfl rfl rfl rfl rfl (dfa (off := 2) (s := 1) (r := false) rfl rfl rfl (Nat.succ_ne_zero _) rfl rfl rfl ?_)))
  (apply dlc (v := .view _ _ _) rfl rfl; exact Q0; exact Q6; rfl; rfl; rfl; rfl; rfl)
  refine dmI rfl rfl rfl rfl rfl (dfa (off := 4) (s := 1) (r := false) rfl rfl rfl (Nat.succ_ne_zero _) rfl rfl rfl ?_)
  (apply dlc (v := .str _) rfl rfl; exact Q0; exact Q6; rfl; rfl; rfl; rfl; rfl)
  refine dbd (cs := [.str _, .int _ _, .int _ _, .int _ _, _]) rfl rfl rfl rfl rfl (dbs (es := [[.str _, .int _ _, .int _ _, .int _ _, _]]) rfl rfl rfl rfl (Nat.succ_ne_zero _) (Nat.le_of_ble_eq_true rfl) rfl rfl rfl rfl rfl ?_)
  refine dop (hI (n + 1 + 1 + t.lk.length + 1) _ _ (hkl.mono (fun a ha => by have q := hsl a ha; have q1 := q.1; have q2 := q.2; (simp (disch := (first | omega | assumption)) only [↓appC, ↓updN, ↓updS, ↓app0]))) (fun a ha => by have q := hsl a (by first | exact ha | exact congrArg some (Option.some.inj ha) | cases ha); omega) (by omega) (by exact Q0)) rfl rfl rfl rfl rfl rfl ?_
  refine dnc (v := .ptr _ _ _) rfl rfl rfl rfl rfl rfl (dfa (off := 2) (s := 1) (r := false) rfl rfl rfl (Nat.succ_ne_zero _) rfl rfl rfl ?_)
  (apply dst (u := .view _ _ _) rfl rfl rfl; exact Q0; exact Q6; rfl; rfl; rfl; rfl; (exact Nat.le_of_ble_eq_true rfl); rfl; rfl; rfl)
  refine dNilR 14 [3, 0, 0, 3, 3, 0, 1, 0, 0, 1, 0, 0, 0, 0] [(4, 9)] rfl rfl (by decide +kernel) ?_ ?_
  ·(simp [ClearL, ids, idV, fpV]; try omega)
  refine qSeq (wSeq (wRegion (rmP rfl rfl rfl rfl rfl (rnc (v := .ptr _ _ _) rfl rfl rfl rfl rfl rfl (rfa (off := 2) (s := 1) (r := false) rfl rfl rfl (Nat.succ_ne_zero _) rfl rfl rfl ?_)))))
  (apply rlc (v := .view _ _ _) rfl rfl; exact Q0; exact Q6; rfl; rfl; rfl; rfl; rfl)
  refine rmI rfl rfl rfl rfl rfl ?_
  (refine r0 ((op_index_view (b := ⟨((rwW t.lk W).take k ++ [.str r.nm, .int .i64 0, .int .i64 (-1), .int .i64 0, .nsl] :: (rwW t.lk W).drop k), 5, 29⟩) rfl rfl rfl rfl (by exact Q0) rfl (by omega) (by omega)).to (v' := .ptr (n + 1 + 1 + t.lk.length + 1 + 1) k 0) (by rw [toNat0])) rfl rfl rfl ?_)
  refine raP rfl rfl rfl rfl rfl (rNil (qSeq (wSeq (wBlock (wSeq (wDraw [0, 1, 3, 7, 0, 16, 63, 127, 255, 511, 1023, 255, 2303, 8191, 16383, 32767, 65535] rfl (by decide +kernel) ?_))))))
  refine dmP rfl rfl rfl rfl rfl (dnc (v := .ptr _ _ _) rfl rfl rfl rfl rfl rfl (dfa (off := 2) (s := 1) (r := false) rfl rfl rfl (Nat.succ_ne_zero _) rfl rfl rfl ?_))
  (apply dlc (v := .int _ _) rfl rfl; exact Q0; exact Q6; rfl; rfl; rfl; rfl; rfl)
  refine dfa (off := 0) (s := 1) (r := false) rfl rfl rfl (Nat.succ_ne_zero _) rfl rfl rfl ?_
  (apply dlc (v := .int _ _) rfl rfl; exact Q0; exact Q6; rfl; rfl; rfl; rfl; rfl)
  refine deq rfl rfl rfl rfl rfl rfl (fun h => absurd h (by omega)) ?_
  intro h7_6
  refine dmB rfl rfl rfl rfl rfl (dmP rfl rfl rfl rfl rfl (dnc (v := .ptr _ _ _) rfl rfl rfl rfl rfl rfl ?_))
  (apply dlr (vs := [.str _, .int _ _, .int _ _, .int _ _, _]) rfl rfl; exact Q0; exact Q6; rfl; (exact Nat.le_of_ble_eq_true rfl); rfl; rfl; rfl; rfl)
  refine dfa (off := 0) (s := 1) (r := false) rfl rfl rfl (Nat.succ_ne_zero _) rfl rfl rfl ?_
  (apply dlc (v := .int _ _) rfl rfl; exact Q0; exact Q6; rfl; rfl; rfl; rfl; rfl)
  apply dclS [n + 1 + 1 + t.lk.length + 1 + 1] (p66 ⟨r.nm, 0, -1, 0, []⟩ false r.cl (Nat.zero_le _)) rfl rfl rfl
  ·exact SnapL.cons _ _ _ _ (SnapC.agg (.cons _ _ _ _ (.str _) (.cons _ _ _ _ (.int _ _) (.cons _ _ _ _ (.int _ _) (.cons _ _ _ _ (.int _ _) (.cons _ _ _ _ .nslW .nil)))))) (SnapL.cons _ _ _ _ (.one _ _ (.int _ _)) SnapL.nil)
  ·rfl
  ·rfl
  ·rfl
  refine dge rfl rfl rfl rfl rfl rfl (fun h => absurd h ((by show ¬ ((-1 : Int) ≥ 0); decide))) ?_
  intro h7_14
  refine dpk (e := false) rfl rfl rfl rfl rfl rfl (daB rfl rfl rfl rfl rfl (dNilR 17 [0, 0, 0, 1, 1, 0, 1, 0, 0, 0, 0, 1, 0, 1, 0, 0, 0] [] rfl rfl (by decide +kernel) trivial ?_))
  refine qSeq (wF rfl (wSeq (wRegion (rmP rfl rfl rfl rfl rfl (rnc (v := .ptr _ _ _) rfl rfl rfl rfl rfl rfl (rfa (off := 2) (s := 1) (r := false) rfl rfl rfl (Nat.succ_ne_zero _) rfl rfl rfl ?_))))))
  (apply rlc (v := .int _ _) rfl rfl; exact Q0; exact Q6; rfl; rfl; rfl; rfl; rfl)
  refine req rfl rfl rfl rfl rfl rfl ?_ (fun h => absurd (rfl) h)
  intro h9_4
  refine raB rfl rfl rfl rfl rfl (rNil (qSeq (wT rfl (wSeq (wRegion (rmP rfl rfl rfl rfl rfl (rmP rfl rfl rfl rfl rfl (rfa (off := 0) (s := 1) (r := false) rfl rfl rfl (Nat.succ_ne_zero _) rfl rfl rfl ?_))))))))
  (apply rlc (v := .int _ _) rfl rfl; exact Q0; exact Q6; rfl; rfl; rfl; rfl; rfl)
  refine rfa (off := 3) (s := 1) (r := false) rfl rfl rfl (Nat.succ_ne_zero _) rfl rfl rfl ?_
  (apply rlc (v := .int _ _) rfl rfl; exact Q0; exact Q6; rfl; rfl; rfl; rfl; rfl)
  refine rop (o125 r.nm 0 (-1) 0 t.tm t.nx r.cl r.le .nsl (.view (n + 1 + 1 + t.lk.length + 1 + 1) 0 (t.lk.length + 1)) Ss rfl htm (by omega) hle (id := id) (lb := n + 1 + 1 + t.lk.length + 1 + 1) (j := k) (R := ((rwW t.lk W).take k ++ [.str r.nm, .int .i64 0, .int .i64 (-1), .int .i64 0, .nsl] :: (rwW t.lk W).drop k)) (by omega) (by omega) (by omega) (by exact Q0) hRI (by exact Q0) hrow) rfl rfl rfl rfl rfl rfl ?_
  refine rNil (qSeq (wSeq (wRegion (rmP rfl rfl rfl rfl rfl (rop (o136 r.nm t.nx r.cl (t.tm + r.le) 1 .nsl (lb := n + 1 + 1 + t.lk.length + 1 + 1) (j := k) (R := ((rwW t.lk W).take k ++ [.str r.nm, .int .i64 0, .int .i64 (-1), .int .i64 0, .nsl] :: (rwW t.lk W).drop k).set k [.str r.nm, .int .i64 t.nx, .int .i64 r.cl, .int .i64 (t.tm + r.le), .nsl]) (by omega) (by exact Q0) (List.getElem?_set_self hRI)) rfl rfl rfl rfl rfl rfl ?_)))))
  (apply rst (u := .agg [.int _ _, .int _ _, .int _ _, .int _ _]) rfl rfl rfl; exact Q0; exact Q6; rfl; rfl; rfl; rfl; (exact Nat.le_of_ble_eq_true rfl); rfl; rfl; rfl)
  refine rNil (qSeq (wRet (qBlockR (qSeqR (finM (resL_cons (resV_row rfl (by exact Q0) rfl rfl (Nat.le_of_ble_eq_true rfl) rfl) resL_nil) (by (repeat first | exact Ch.refl _ | refine Ch.upd ?_ | refine Ch.app ?_ | assumption)) ?_)))))
  rw [acqT_new hh (by omega), hp]
  refine ⟨rfl, T.insS hk ⟨r.nm, t.nx, r.cl, t.tm + r.le, []⟩ .nsl (t.nx + 1) (n + 1 + 1 + t.lk.length + 1 + 1) (by omega) ⟨by omega, by omega⟩ ?_ ?_ (.inl ⟨rfl, rfl⟩) (fun a ha => by cases ha) ?_⟩
  ·exact Q0
  ·(simp (disch := (first | omega | assumption)) only [↓appC, ↓updN, ↓updS, ↓app0])
   exact congrArg (fun z => some (Blk.mk z 5 29)) (set_mid hA)
  ·intro a ha h1 h2
   have h3 : a ≠ lb := fun e => h2 (by rw [e]; rfl)
   (simp (disch := (first | omega | assumption)) only [↓appC, ↓updN, ↓updS, ↓app0])
theorem o134z (t : Tb) (r : Rq) (bd : Bd t r) (hh : ¬ hit r.nm t.lk) {k : Nat} (hp : pos r.nm t.lk = k) {id : Nat} {Ss : V} {W : Nat → V} {h : Heap} {n : Nat} (hz : t.lk.length = 0) (T : TabM t id .nsl Ss W h n) : OpenM En 134 [.ptr id 0 0, .agg [.int .i64 r.cl, .int .i64 r.st, .int .i64 r.kd, .int .i64 r.le, .str r.nm]] h n (fun v g m => v = .agg (acqT t r).2.V ∧ TabS (acqT t r).1 id (OwnT id .nsl Ss W t.lk.length) n h g m) := by
 have hid := T.idn
 have kid := T.kid
 have hl4 := bd.l4; have htm := bd.tm; have hnx := bd.nx; have hcl := bd.cl; have hle := bd.le
 have hf := fun (h : Heap) (n : Nat) (T : TabM t id .nsl Ss W h n) => o48x t W r.nm bd.srt (by omega) hh T
 rw [hp] at hf
 have hk : k ≤ t.lk.length := by rw [← hp]; exact pos_le _ _
 have hI := fun vb h n => @o146z (rwW t.lk W) r.nm 0 (-1) 0 .nsl rfl k (by rw [rwW_len]; exact hk) (rwW_five _ _) (by rw [rwW_len]; omega) .nsl vb h n
 rw [rwW_len] at hI
 simp only [idV, fpV, Option.getD_some, Option.getD_none] at hI
 have hsl := T.fl
 have hkl := T.kl
 have hA : ((rwW t.lk W).take k).length = k := by rw [List.length_take, rwW_len]; omega
 have hRI : k < ((rwW t.lk W).take k ++ [.str r.nm, .int .i64 0, .int .i64 (-1), .int .i64 0, .nsl] :: (rwW t.lk W).drop k).length := by rw [List.length_append, hA, List.length_cons]; omega
 have hrow : ((rwW t.lk W).take k ++ [.str r.nm, .int .i64 0, .int .i64 (-1), .int .i64 0, .nsl] :: (rwW t.lk W).drop k)[k]? = some [.str r.nm, .int .i64 0, .int .i64 (-1), .int .i64 0, .nsl] := get_mid hA
 refine OpenM.of_wp Try.func134 rfl (Nat.le_of_ble_eq_true rfl) ?_
 refine wSeq (wRegion (rbx (u := .agg [.int _ _, .int _ _, .int _ _, .int _ _, .str _]) rfl rfl rfl rfl rfl rfl rfl (ral rfl rfl rfl rfl rfl rfl (rNil (qSeq (wSeq (wRegion (rmP rfl rfl rfl rfl rfl (rfa (off := 4) (s := 1) (r := false) rfl rfl rfl (Nat.succ_ne_zero _) rfl rfl rfl ?_)))))))))
 (apply rlc (v := .str _) rfl rfl; exact Q0; exact Q6; rfl; rfl; rfl; rfl; rfl)
 refine rop (hf _ _ (T.ext (by omega) (fun a ha => by (simp (disch := (first | omega | assumption)) only [↓appC, ↓updN, ↓updS, ↓app0])))) rfl rfl rfl rfl rfl rfl ?_
 refine rmT rfl rfl rfl rfl rfl (rex rfl rfl rfl rfl rfl rfl (rex rfl rfl rfl rfl rfl rfl (raI rfl rfl rfl rfl rfl (raB rfl rfl rfl rfl rfl (rNil (qSeq (wSeq (wSeq (wRegion (rmB rfl rfl rfl rfl rfl (rnot (c := false) rfl rfl rfl rfl rfl (rNil ?_))))))))))))
 refine qSeq (wT rfl (wSeq (wSeq (wRegion (rmP rfl rfl rfl rfl rfl (rnc (v := .ptr _ _ _) rfl rfl rfl rfl rfl rfl (rfa (off := 2) (s := 1) (r := false) rfl rfl rfl (Nat.succ_ne_zero _) rfl rfl rfl ?_)))))))
 (apply rlc (v := .nsl) rfl rfl; exact Q0; exact Q6; rfl; rfl; rfl; rfl; rfl)
 refine rll rfl rfl rfl rfl rfl rfl ?_
 refine req rfl rfl rfl rfl rfl rfl (fun h => absurd h ((by show ¬ ((0 : Int) = 4); decide))) ?_
 intro h3_5
 refine rNil (qSeq (wF rfl (wSkip (qSeq (wDraw [0, 0, 2, 6, 14, 0, 0, 64, 192, 448, 1022, 2047, 4095, 8191] rfl (by decide +kernel) ?_)))))
 refine dmP rfl rfl rfl rfl rfl (dmP rfl rfl rfl rfl rfl (dnc (v := .ptr _ _ _) rfl rfl rfl rfl rfl rfl (dfa (off := 2) (s := 1) (r := false) rfl rfl rfl (Nat.succ_ne_zero _) rfl rfl rfl ?_)))
 (apply dlc (v := .nsl) rfl rfl; exact Q0; exact Q6; rfl; rfl; rfl; rfl; rfl)
 refine dmI rfl rfl rfl rfl rfl (dfa (off := 4) (s := 1) (r := false) rfl rfl rfl (Nat.succ_ne_zero _) rfl rfl rfl ?_)
 (apply dlc (v := .str _) rfl rfl; exact Q0; exact Q6; rfl; rfl; rfl; rfl; rfl)
 refine dbd (cs := [.str _, .int _ _, .int _ _, .int _ _, _]) rfl rfl rfl rfl rfl (dbs (es := [[.str _, .int _ _, .int _ _, .int _ _, _]]) rfl rfl rfl rfl (Nat.succ_ne_zero _) (Nat.le_of_ble_eq_true rfl) rfl rfl rfl rfl rfl ?_)
 refine dop (hI (n + 1 + 1 + t.lk.length + 1) _ _ (hkl.mono (fun a ha => by have q := hsl a ha; have q1 := q.1; have q2 := q.2; (simp (disch := (first | omega | assumption)) only [↓appC, ↓updN, ↓updS, ↓app0]))) (fun a ha => by have q := hsl a (by first | exact ha | exact congrArg some (Option.some.inj ha) | cases ha); omega) (by omega) (by exact Q0)) rfl rfl rfl rfl rfl rfl ?_
 refine dnc (v := .ptr _ _ _) rfl rfl rfl rfl rfl rfl (dfa (off := 2) (s := 1) (r := false) rfl rfl rfl (Nat.succ_ne_zero _) rfl rfl rfl ?_)
 (apply dst (u := .view _ _ _) rfl rfl rfl; exact Q0; exact Q6; rfl; rfl; rfl; rfl; (exact Nat.le_of_ble_eq_true rfl); rfl; rfl; rfl)
 refine dNilR 14 [3, 0, 0, 3, 3, 0, 1, 0, 0, 1, 0, 0, 0, 0] [(4, 9)] rfl rfl (by decide +kernel) ?_ ?_
 ·(simp [ClearL, ids, idV, fpV]; try omega)
 refine qSeq (wSeq (wRegion (rmP rfl rfl rfl rfl rfl (rnc (v := .ptr _ _ _) rfl rfl rfl rfl rfl rfl (rfa (off := 2) (s := 1) (r := false) rfl rfl rfl (Nat.succ_ne_zero _) rfl rfl rfl ?_)))))
 (apply rlc (v := .view _ _ _) rfl rfl; exact Q0; exact Q6; rfl; rfl; rfl; rfl; rfl)
 refine rmI rfl rfl rfl rfl rfl ?_
 (refine r0 ((op_index_view (b := ⟨((rwW t.lk W).take k ++ [.str r.nm, .int .i64 0, .int .i64 (-1), .int .i64 0, .nsl] :: (rwW t.lk W).drop k), 5, 29⟩) rfl rfl rfl rfl (by exact Q0) rfl (by omega) (by omega)).to (v' := .ptr (n + 1 + 1 + t.lk.length + 1 + 1) k 0) (by rw [toNat0])) rfl rfl rfl ?_)
 refine raP rfl rfl rfl rfl rfl (rNil (qSeq (wSeq (wBlock (wSeq (wDraw [0, 1, 3, 7, 0, 16, 63, 127, 255, 511, 1023, 255, 2303, 8191, 16383, 32767, 65535] rfl (by decide +kernel) ?_))))))
 refine dmP rfl rfl rfl rfl rfl (dnc (v := .ptr _ _ _) rfl rfl rfl rfl rfl rfl (dfa (off := 2) (s := 1) (r := false) rfl rfl rfl (Nat.succ_ne_zero _) rfl rfl rfl ?_))
 (apply dlc (v := .int _ _) rfl rfl; exact Q0; exact Q6; rfl; rfl; rfl; rfl; rfl)
 refine dfa (off := 0) (s := 1) (r := false) rfl rfl rfl (Nat.succ_ne_zero _) rfl rfl rfl ?_
 (apply dlc (v := .int _ _) rfl rfl; exact Q0; exact Q6; rfl; rfl; rfl; rfl; rfl)
 refine deq rfl rfl rfl rfl rfl rfl (fun h => absurd h (by omega)) ?_
 intro h7_6
 refine dmB rfl rfl rfl rfl rfl (dmP rfl rfl rfl rfl rfl (dnc (v := .ptr _ _ _) rfl rfl rfl rfl rfl rfl ?_))
 (apply dlr (vs := [.str _, .int _ _, .int _ _, .int _ _, _]) rfl rfl; exact Q0; exact Q6; rfl; (exact Nat.le_of_ble_eq_true rfl); rfl; rfl; rfl; rfl)
 refine dfa (off := 0) (s := 1) (r := false) rfl rfl rfl (Nat.succ_ne_zero _) rfl rfl rfl ?_
 (apply dlc (v := .int _ _) rfl rfl; exact Q0; exact Q6; rfl; rfl; rfl; rfl; rfl)
 apply dclS [n + 1 + 1 + t.lk.length + 1 + 1] (p66 ⟨r.nm, 0, -1, 0, []⟩ false r.cl (Nat.zero_le _)) rfl rfl rfl
 ·exact SnapL.cons _ _ _ _ (SnapC.agg (.cons _ _ _ _ (.str _) (.cons _ _ _ _ (.int _ _) (.cons _ _ _ _ (.int _ _) (.cons _ _ _ _ (.int _ _) (.cons _ _ _ _ .nslW .nil)))))) (SnapL.cons _ _ _ _ (.one _ _ (.int _ _)) SnapL.nil)
 ·rfl
 ·rfl
 ·rfl
 refine dge rfl rfl rfl rfl rfl rfl (fun h => absurd h ((by show ¬ ((-1 : Int) ≥ 0); decide))) ?_
 intro h7_14
 refine dpk (e := false) rfl rfl rfl rfl rfl rfl (daB rfl rfl rfl rfl rfl (dNilR 17 [0, 0, 0, 1, 1, 0, 1, 0, 0, 0, 0, 1, 0, 1, 0, 0, 0] [] rfl rfl (by decide +kernel) trivial ?_))
 refine qSeq (wF rfl (wSeq (wRegion (rmP rfl rfl rfl rfl rfl (rnc (v := .ptr _ _ _) rfl rfl rfl rfl rfl rfl (rfa (off := 2) (s := 1) (r := false) rfl rfl rfl (Nat.succ_ne_zero _) rfl rfl rfl ?_))))))
 (apply rlc (v := .int _ _) rfl rfl; exact Q0; exact Q6; rfl; rfl; rfl; rfl; rfl)
 refine req rfl rfl rfl rfl rfl rfl ?_ (fun h => absurd (rfl) h)
 intro h9_4
 refine raB rfl rfl rfl rfl rfl (rNil (qSeq (wT rfl (wSeq (wRegion (rmP rfl rfl rfl rfl rfl (rmP rfl rfl rfl rfl rfl (rfa (off := 0) (s := 1) (r := false) rfl rfl rfl (Nat.succ_ne_zero _) rfl rfl rfl ?_))))))))
 (apply rlc (v := .int _ _) rfl rfl; exact Q0; exact Q6; rfl; rfl; rfl; rfl; rfl)
 refine rfa (off := 3) (s := 1) (r := false) rfl rfl rfl (Nat.succ_ne_zero _) rfl rfl rfl ?_
 (apply rlc (v := .int _ _) rfl rfl; exact Q0; exact Q6; rfl; rfl; rfl; rfl; rfl)
 refine rop (o125 r.nm 0 (-1) 0 t.tm t.nx r.cl r.le .nsl (.view (n + 1 + 1 + t.lk.length + 1 + 1) 0 (t.lk.length + 1)) Ss rfl htm (by omega) hle (id := id) (lb := n + 1 + 1 + t.lk.length + 1 + 1) (j := k) (R := ((rwW t.lk W).take k ++ [.str r.nm, .int .i64 0, .int .i64 (-1), .int .i64 0, .nsl] :: (rwW t.lk W).drop k)) (by omega) (by omega) (by omega) (by exact Q0) hRI (by exact Q0) hrow) rfl rfl rfl rfl rfl rfl ?_
 refine rNil (qSeq (wSeq (wRegion (rmP rfl rfl rfl rfl rfl (rop (o136 r.nm t.nx r.cl (t.tm + r.le) 1 .nsl (lb := n + 1 + 1 + t.lk.length + 1 + 1) (j := k) (R := ((rwW t.lk W).take k ++ [.str r.nm, .int .i64 0, .int .i64 (-1), .int .i64 0, .nsl] :: (rwW t.lk W).drop k).set k [.str r.nm, .int .i64 t.nx, .int .i64 r.cl, .int .i64 (t.tm + r.le), .nsl]) (by omega) (by exact Q0) (List.getElem?_set_self hRI)) rfl rfl rfl rfl rfl rfl ?_)))))
 (apply rst (u := .agg [.int _ _, .int _ _, .int _ _, .int _ _]) rfl rfl rfl; exact Q0; exact Q6; rfl; rfl; rfl; rfl; (exact Nat.le_of_ble_eq_true rfl); rfl; rfl; rfl)
 refine rNil (qSeq (wRet (qBlockR (qSeqR (finM (resL_cons (resV_row rfl (by exact Q0) rfl rfl (Nat.le_of_ble_eq_true rfl) rfl) resL_nil) (by (repeat first | exact Ch.refl _ | refine Ch.upd ?_ | refine Ch.app ?_ | assumption)) ?_)))))
 rw [acqT_new hh (by omega), hp]
 refine ⟨rfl, T.insS hk ⟨r.nm, t.nx, r.cl, t.tm + r.le, []⟩ .nsl (t.nx + 1) (n + 1 + 1 + t.lk.length + 1 + 1) (by omega) ⟨by omega, by omega⟩ ?_ ?_ (.inl ⟨rfl, rfl⟩) (fun a ha => by cases ha) ?_⟩
 ·exact Q0
 ·(simp (disch := (first | omega | assumption)) only [↓appC, ↓updN, ↓updS, ↓app0])
  exact congrArg (fun z => some (Blk.mk z 5 29)) (set_mid hA)
 ·intro a ha h1 h2
  (simp (disch := (first | omega | assumption)) only [↓appC, ↓updN, ↓updS, ↓app0])
theorem o134 (t : Tb) (r : Rq) (bd : Bd t r) {id : Nat} {Sl Ss : V} {W : Nat → V} {h : Heap} {n : Nat} (T : TabM t id Sl Ss W h n) : OpenM En 134 [.ptr id 0 0, .agg [.int .i64 r.cl, .int .i64 r.st, .int .i64 r.kd, .int .i64 r.le, .str r.nm]] h n (fun v g m => v = .agg (acqT t r).2.V ∧ TabS (acqT t r).1 id (OwnT id Sl Ss W t.lk.length) n h g m) := by
 rcases T.kl with ⟨rfl, k⟩ | ⟨lb, rfl, k⟩
 ·have hl : t.lk.length = 0 := by have := congrArg List.length k; rw [rwW_len] at this; exact this
  exact o134z t r bd (fun e => by have := e.1; omega) rfl hl T
 ·rw [rwW_len] at T ⊢
  by_cases hh : hit r.nm t.lk
  ·exact o134h t r bd hh rfl T
  ·exact o134x t r bd hh rfl T
end Go.Proofs.Ytknnniaoboaghaa
