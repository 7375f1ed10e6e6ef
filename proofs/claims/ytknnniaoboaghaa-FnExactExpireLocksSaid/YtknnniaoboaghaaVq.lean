import Derived.Test.YtknnniaoboaghaaVn
import Derived.Test.YtknnniaoboaghaaVo
namespace Go.V
open Go
set_option linter.unusedVariables false
set_option linter.unusedSimpArgs false

/-- Data: no block of the call's own in it. -/
def V.data : V → Bool
  | .bool _ | .int _ _ | .str _ | .nilp | .nilf | .nsl | .sl _ _ _ => true
  | _ => false
/-- No memory that nobody writes in it. -/
def V.flat : V → Bool
  | .bool _ | .int _ _ | .str _ | .nilp | .nilf | .nsl | .view _ _ _ | .ptr _ _ _ => true
  | _ => false
theorem VR.data {c c' : Cx} {x : V} {v : Value} (hx : x.data = true) (h : VR c x v) (hi : ∀ b, c.I b → c'.I b) (hB : c'.B = c.B) (hw : c'.w = c.w) : VR c' x v := by
  cases h with
  | bool b => exact .bool b
  | int k n => exact .int k n
  | str s => exact .str s
  | nilp => exact .nilp
  | nilf => exact .nilf
  | nsl => exact .nsl
  | sl fr nn es v h => exact .sl fr nn es v ((h.mono (fun b hb => ⟨hi b hb.1, fun e => by rw [hB]; exact hb.2 e⟩) (fun b _ => by rw [hw])))
  | _ => cases hx
theorem VR.flat {c c' : Cx} {x : V} {v : Value} (hx : x.flat = true) (h : VR c x v) (hr : ∀ id p, c.ρ id = some p → c'.ρ id = some p) : VR c' x v := by
  cases h with
  | bool b => exact .bool b
  | int k n => exact .int k n
  | str s => exact .str s
  | nilp => exact .nilp
  | nilf => exact .nilf
  | nsl => exact .nsl
  | view id off len p o cap hp ho hl hm => exact .view id off len p o cap (hr _ _ hp) ho hl hm
  | ptr id i j p hp hm => exact .ptr id i j p (hr _ _ hp) hm
  | _ => cases hx

theorem op_fresh {E : Env} {o : Oper} {t : Nat → V} {h : Heap} {n n' : Nat} {fo : Operand} {args : Array Operand} {tys : Array TypeId} {f : FuncId} {vs : List V} {v : V} {wr : List (Nat × Option Blk)}
    (ho : o.op = .call { callee := .value fo, args := args, argTypes := tys }) (hc : E.eval t fo = .clo f []) (hv : args.toList.map (E.eval t) = vs) (hop : Open E f vs (fun _ => none) n v wr n')
    (hda : ∀ x ∈ vs, x.data = true) (hfl : v.flat = true) (hwf : ∀ id b, app wr (fun _ => none) id = some b → ∀ e ∈ b.es, ∀ x ∈ e, x.flat = true) :
    OpOK E o t h n [] false v wr n' := by
  intro c a h2 K Q hd hx hg hrd _ hf hK
  obtain ⟨cs, hrun, hcl, hcr⟩ := run_call ho hc hx (by unfold Open at hop; exact hop.1.1)
  have hcs : cs = #[] := Array.eq_empty_of_size_eq_zero (by simpa using hcl.symm)
  subst hcs
  simp only [Array.append_empty] at hrun
  unfold Oper.wp
  rw [hrun, Oper.upon_enter]
  let c0 : Cx := { ρ := fun _ => none, I := fun b => b < c.w.heap.size, B := c.B, w := c.w }
  have hg0 : Good E c0 (fun _ => none) := by
    refine ⟨fun _ _ h => (nomatch h), fun _ _ _ _ _ _ h => (nomatch h), fun _ h => h, fun _ _ _ h => (nomatch h), fun _ _ h => (nomatch h), hg.base, fun g cs hgc => ?_⟩
    have := hg.glob g cs hgc
    cases this with
    | iptr _ _ b off rd hI hrd' hsub =>
      exact .iptr false cs g 0 rd ⟨hg.imm _ hI.1, by simp⟩ hrd' fun j x hj => (hsub j x hj).mono (fun b hb => ⟨hg.imm _ hb.1, by simp⟩) fun _ _ => rfl
  unfold Open at hop
  refine Calls.mono (hop.2 c0 (args.map a.eval) hg0 (fun _ _ => rfl) (by rw [← hv]; simp) (fun i x u h1 h3 => ?_)) ?_
  · rw [← hv, List.getElem?_map] at h1
    rw [Array.getElem?_map] at h3
    cases hx' : args[i]? with
    | none => simp [hx'] at h3
    | some y =>
      have hx2 : args.toList[i]? = some y := by simpa using hx'
      simp only [hx2, Option.map_some, Option.some.injEq] at h1
      simp only [hx', Option.map_some, Option.some.injEq] at h3
      subst h1; subst h3
      exact VR.data (hda _ (by rw [← hv]; exact List.mem_map.2 ⟨y, List.mem_of_getElem? hx2, rfl⟩)) (hx y (by simp [ho, Op.operands, Call.operands]; exact .inr (Array.mem_of_getElem? hx'))) (fun b hb => hg.imm b hb) rfl rfl
  · rintro e w' ⟨u, c', rfl, rfl, hx2, hg2, hd2, hv2⟩
    have hdom : ∀ id p, c'.ρ id = some p → n ≤ id ∧ id < n' := fun id p hp => by
      rcases hd2 id (by rw [hp]; nofun) with h1 | h1
      · exact absurd rfl h1
      · exact h1
    have hsz : c.w.heap.size ≤ c'.w.heap.size := hx2.below.size
    have hBB : c'.B = c.B := hx2.B
    have hnew : ∀ id b p, app wr (fun _ => none) id = some b → c'.ρ id = some p → c.w.heap.size ≤ p.b := fun id b p h1 h3 => by
      rcases Nat.lt_or_ge p.b c.w.heap.size with h4 | h4
      · exact absurd (hx2.imm _ h4) (hg2.sep id b p h1 h3)
      · exact h4
    let c2 : Cx := { ρ := fun id => (c'.ρ id).or (c.ρ id), I := fun b => c.I b, B := c.B, w := c'.w }
    have r1 : ∀ id p, c.ρ id = some p → c2.ρ id = some p := fun id p hp => by
      show (c'.ρ id).or (c.ρ id) = some p
      cases hq : c'.ρ id with
      | none => simpa using hp
      | some q =>
        have := hdom id q hq
        rw [hf id this.1 this.2] at hp; cases hp
    have r2 : ∀ id p, c'.ρ id = some p → c2.ρ id = some p := fun id p hp => by
      show (c'.ρ id).or (c.ρ id) = some p
      rw [hp]; rfl
    have keep : ∀ b, b < c.w.heap.size → c'.w.heap[b]? = c.w.heap[b]? := fun b hb => hx2.keep b hb
    have hx3 : Ext c c2 := ⟨rfl, r1, fun b h => h, fun b hb => keep b (hg.imm b hb), hx2.below⟩
    have hlive : ∀ id b, app wr h2 id = some b → (∃ p, app wr (fun _ => none) id = some b ∧ c'.ρ id = some p) ∨ (id ∉ wr.map (·.1) ∧ h2 id = some b ∧ ∃ p, c.ρ id = some p) := fun id b hb => by
      by_cases hm : id ∈ wr.map (·.1)
      · rw [app_mem wr h2 (fun _ => none) id hm] at hb
        obtain ⟨p, h1, _⟩ := hg2.blk id b hb
        exact .inl ⟨p, hb, h1⟩
      · rw [app_ne wr h2 id hm] at hb
        obtain ⟨p, h1, _⟩ := hg.blk id b hb
        exact .inr ⟨hm, hb, p, h1⟩
    refine hK c2 u hx3 ?_ ?_ (VR.flat hfl hv2 r2)
    · refine ⟨fun id b hb => ?_, fun id id' b b' p p' hb hb' hp hp' hpp => ?_, fun b hb => Nat.lt_of_lt_of_le (hg.imm b hb) hsz, fun id b p hb hp hI => ?_, fun id p hp => ?_, Nat.le_trans hg.base hsz, fun g cs hgc => (hg.glob g cs hgc).mono hx3⟩
      · rcases hlive id b hb with ⟨p, h1, h3⟩ | ⟨_, h1, p, h3⟩
        · obtain ⟨q, k1, k2, k3⟩ := hg2.blk id b h1
          refine ⟨q, r2 _ _ k1, fun hm => ?_, fun hm => ?_⟩
          rotate_left
          · obtain ⟨es, j1, j2, j3⟩ := k3 hm
            refine ⟨es, j1, j2, fun i row hr => ?_⟩
            obtain ⟨e, k, x, m1, m2, m3, m4, m5⟩ := j3 i row hr
            have hfr := hwf id b h1 row (List.mem_of_getElem? hr)
            exact ⟨e, k, x, m1, m2, m3, VR.flat (hfr k (by rw [m2]; simp)) m4 r2, VR.flat (hfr x (by rw [m2]; simp)) m5 r2⟩
          obtain ⟨cells, fz, j2, j3, j4, j5, j6, j7, j8⟩ := k2 hm
          refine ⟨cells, fz, j2, j3, j4, j5, j6, j7, fun i j x hx => ?_⟩
          obtain ⟨w, m1, m2, m3⟩ := j8 i j x hx
          refine ⟨w, m1, VR.flat ?_ m2 r2, m3⟩
          unfold get2 at hx
          cases he : b.es[i]? with
          | none => simp [he] at hx
          | some e =>
            simp only [he, Option.bind_some] at hx
            exact hwf id b h1 e (List.mem_of_getElem? he) x (List.mem_of_getElem? hx)
        · obtain ⟨q, k1, k2, k3⟩ := hg.blk id b h1
          have hk := keep q.b (hg.own id q k1).2
          exact ⟨q, r1 _ _ k1, fun hm => (k2 hm).mono hx3 hk, fun hm => (k3 hm).mono hx3 hk⟩
      · have key : ∀ id b p, app wr h2 id = some b → c2.ρ id = some p → (app wr (fun _ => none) id = some b ∧ c'.ρ id = some p ∧ c.w.heap.size ≤ p.b) ∨ (h2 id = some b ∧ c.ρ id = some p ∧ p.b < c.w.heap.size) := fun id b p hb hp => by
          rcases hlive id b hb with ⟨q, h1, h3⟩ | ⟨_, h1, q, h3⟩
          · have := r2 _ _ h3
            rw [this] at hp; obtain rfl := Option.some.inj hp
            exact .inl ⟨h1, h3, hnew _ _ _ h1 h3⟩
          · have := r1 _ _ h3
            rw [this] at hp; obtain rfl := Option.some.inj hp
            exact .inr ⟨h1, h3, (hg.own _ _ h3).2⟩
        rcases key id b p hb hp with ⟨a1, a2, a3⟩ | ⟨a1, a2, a3⟩ <;> rcases key id' b' p' hb' hp' with ⟨b1, b2, b3⟩ | ⟨b1, b2, b3⟩
        · exact hg2.inj id id' b b' p p' a1 b1 a2 b2 hpp
        · omega
        · omega
        · exact hg.inj id id' b b' p p' a1 b1 a2 b2 hpp
      · rcases hlive id b hb with ⟨q, h1, h3⟩ | ⟨_, h1, q, h3⟩
        · have := r2 _ _ h3
          rw [this] at hp; obtain rfl := Option.some.inj hp
          have := hnew _ _ _ h1 h3
          have := hg.imm _ hI
          omega
        · have := r1 _ _ h3
          rw [this] at hp; obtain rfl := Option.some.inj hp
          exact hg.sep id b _ h1 h3 hI
      · have hp2 : (c'.ρ id).or (c.ρ id) = some p := hp
        cases hq : c'.ρ id with
        | some q =>
          rw [hq] at hp2
          obtain rfl : q = p := by simpa using hp2
          have := hg2.own id q hq
          rw [hBB] at this; exact this
        | none =>
          rw [hq] at hp2
          have := hg.own id p (by simpa using hp2)
          exact ⟨this.1, Nat.lt_of_lt_of_le this.2 hsz⟩
    · intro id hid
      have hid2 : (c'.ρ id).or (c.ρ id) ≠ none := hid
      cases hq : c'.ρ id with
      | some q => exact .inr (hdom id q hq)
      | none => rw [hq] at hid2; exact .inl (by simpa using hid2)
section
variable {E : Env} {sz : Nat} {ops : Array Oper} {bl : List Nat} {pre : List Ef} {o : Oper} {l : List Oper} {t : Nat → V} {h : Heap} {n : Nat} {R : (Nat → V) → Heap → Nat → Prop} {v : V} {z : Operand}
theorem dfr {tys : Array TypeId} {f : FuncId} {args : Array Operand} {vs : List V} {wr : List (Nat × Option Blk)} {n1 : Nat} (hop : Open E f vs (fun _ => none) n v wr n1) (ho : o.op = .call { callee := .value z, args := args, argTypes := tys }) (hc : E.eval t z = .clo f []) (hv : args.toList.map (E.eval t) = vs)
    (hda : ∀ x ∈ vs, x.data = true) (hfl : v.flat = true) (hwf : ∀ id b, app wr (fun _ => none) id = some b → ∀ e ∈ b.es, ∀ x ∈ e, x.flat = true) (hne : wr ≠ []) {d : Nat} (hdd : o.dst = some d) (hd : Nat.blt d sz = true) (hg : guardV ops t o = some true) (w : WD E sz ops bl (⟨false, v, [], false, wr, n, n1⟩ :: pre) l (upd t d v) (app wr h) n1 R) : WD E sz ops bl pre (o :: l) t h n R := dOpD (op_fresh ho hc hv hop hda hfl hwf) hdd hd hg hop.le (fun h => absurd h hne) w
end
end Go.V
