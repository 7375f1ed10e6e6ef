import Derived.Test.YtknnniaoboaghaaVr
/-! A text's bytes laid as a literal: the conversion of the slice to its own type marks the place behind the block, and changes no cell. -/
namespace Go.V
open Go
set_option linter.unusedVariables false
set_option linter.unusedSimpArgs false
variable {E : Env} {o : Oper} {t : Nat → V} {h : Heap} {n : Nat}
def Cx.mark (c : Cx) (b m : Nat) : Cx := { c with w := c.w.freeze ⟨b, m, none⟩ 1 }
theorem freeze_ne (w : World) {b m k : Nat} (hk : k ≠ b) : (w.freeze ⟨b, m, none⟩ 1).heap[k]? = w.heap[k]? := by
  simp [World.freeze, Array.getElem?_modify, Ne.symm hk]
theorem freeze_at (w : World) {b m : Nat} {cs : Array Value} {ty : TypeId} {fz : Nat × Nat} (hb : w.heap[b]? = some (.cells cs ty fz)) :
    (w.freeze ⟨b, m, none⟩ 1).heap[b]? = some (.cells cs ty (if fz.1 = fz.2 then (m, m + 1) else (min fz.1 m, max fz.2 (m + 1)))) := by
  obtain ⟨lo, hi⟩ := fz
  simp [World.freeze, Array.getElem?_modify, hb]
theorem freeze_size (w : World) {b m : Nat} : (w.freeze ⟨b, m, none⟩ 1).heap.size = w.heap.size := by simp [World.freeze]
theorem op_mark {ty e : TypeId} {x : Operand} {id off len : Nat} {b : Blk} (ho : o.op = .convert ty ty x) (hx : E.eval t x = .view id off len) (hb : h id = some b) (hu : E.P.underlying ty = some (.slice e)) (he : E.P.underlying e = some (.int .u8)) :
    OpOK E o t h n [id] false (.view id off len) [(id, some b)] n := by
  intro c a h2 K Q hd hx' hg hrd _ hf hK
  have h1 := hx' x (by simp [ho, Op.operands])
  rw [hx] at h1
  generalize hv : a.eval x = v at h1
  have hv0 := h1
  cases h1 with
  | view _ _ _ p o' cap hp hof hl hm =>
    have hb2 : h2 id = some b := by rw [hrd id (by simp)]; exact hb
    obtain ⟨cells, fz, q2, q3, q4, q5, q6, q7, q8⟩ := hg.cells hb2 hp hm
    have hxx : Ext c (c.mark p.b cells.size) := by
      refine ⟨rfl, fun i q hq => hq, fun _ h => h, fun k hk => freeze_ne _ (fun (e : k = p.b) => hg.sep id b p hb2 hp (by rw [← e]; exact hk)), ?_⟩
      have hown := (hg.own id p hp).1
      exact ⟨by simp [Cx.mark, World.freeze], by simp [Cx.mark, World.freeze], by simp [Cx.mark, World.freeze], by simp [Cx.mark, freeze_size], fun k hk => freeze_ne _ (by omega)⟩
    have hg2 : Good E (c.mark p.b cells.size) (upd h2 id (some b)) := by
      have hsame : upd h2 id (some b) = h2 := by
        funext i
        by_cases hi : i = id
        · subst hi; rw [upd_same, hb2]
        · rw [upd_ne _ _ hi]
      rw [hsame]
      refine ⟨fun i x hi => ?_, hg.inj, fun k hk => ?_, hg.sep, fun i q hq => ?_, ?_, fun g cs hgc => (hg.glob g cs hgc).mono hxx⟩
      · obtain ⟨q, g1, g2, g3⟩ := hg.blk i x hi
        by_cases hii : i = id
        · subst hii
          rw [hb2] at hi; obtain rfl := Option.some.inj hi
          rw [hp] at g1; obtain rfl := Option.some.inj g1
          refine ⟨p, hp, fun _ => ⟨cells, _, q2, freeze_at _ q3, ?_, q5, q6, q7, fun i j x hx => let ⟨v, r1, r2, r3⟩ := q8 i j x hx; ⟨v, r1, r2.mono hxx, r3⟩⟩, fun hm' => by rw [hm] at hm'; cases hm'⟩
          split
          · exact .inr q5
          · rename_i hne
            exact .inr (by have := q4.resolve_left hne; simp only; omega)
        · have hne : q.b ≠ p.b := fun e => hii (hg.inj i id x b q p hi hb2 g1 hp e)
          exact ⟨q, g1, fun hm' => (g2 hm').mono hxx (freeze_ne _ hne), fun hm' => (g3 hm').mono hxx (freeze_ne _ hne)⟩
      · show k < (c.w.freeze _ 1).heap.size
        rw [freeze_size]; exact hg.imm k hk
      · show c.B ≤ q.b ∧ q.b < (c.w.freeze _ 1).heap.size
        rw [freeze_size]; exact hg.own i q hq
      · show c.B ≤ (c.w.freeze _ 1).heap.size
        rw [freeze_size]; exact hg.base
    have hrun : (execOp a.eval o).run E.P c.w = .ok (.value (.slice (some ⟨p.b, o', none⟩) len cap)) (c.w.freeze ⟨p.b, cells.size, none⟩ 1) := by
      have hsh : c.w.shape? p.b = some (b.ty, cells.size) := by simp [World.shape?, q3]
      simp [execOp, ho, hv, convert, run_underlying hu, run_underlying he, markStringish, hsh]
    unfold Oper.wp
    rw [hrun, Oper.upon_value]
    exact hK (c.mark p.b cells.size) _ hxx hg2 (fun i hi => .inl hi) (hv0.mono hxx)
variable {sz : Nat} {ops : Array Oper} {l : List Oper} {bl : List Nat} {pre : List Ef} {R : (Nat → V) → Heap → Nat → Prop} {ty e : TypeId} {x : Operand}
theorem rmk8 {i j m : Nat} {B : Blk} (ho : o.op = .convert ty ty x) (hx : E.eval t x = .view i j m) (hb : h i = some B) (hu : E.P.underlying ty = some (.slice e)) (he : E.P.underlying e = some (.int .u8)) {d : Nat} (hdd : o.dst = some d) (hd : Nat.blt d sz = true) (hg : guardV ops t o = some true) (w : WR E sz ops l (upd t d (.view i j m)) (app [(i, some B)] h) n R) : WR E sz ops (o :: l) t h n R := rOpD (op_mark ho hx hb hu he) hdd hd hg (Nat.le_refl _) (fun h => by simp at h) w
theorem dmk8 {i j m : Nat} {B : Blk} (ho : o.op = .convert ty ty x) (hx : E.eval t x = .view i j m) (hb : h i = some B) (hu : E.P.underlying ty = some (.slice e)) (he : E.P.underlying e = some (.int .u8)) {d : Nat} (hdd : o.dst = some d) (hd : Nat.blt d sz = true) (hg : guardV ops t o = some true) (w : WD E sz ops bl (⟨false, .view i j m, [i], false, [(i, some B)], n, n⟩ :: pre) l (upd t d (.view i j m)) (app [(i, some B)] h) n R) : WD E sz ops bl pre (o :: l) t h n R := dOpD (op_mark ho hx hb hu he) hdd hd hg (Nat.le_refl _) (fun h => by simp at h) w
end Go.V
