import Derived.Test.YteifdelnahccjaaGreatDoorE12
namespace Go.Proofs.YteifdelnahccjaaGreatDoor
open Go.V
set_option linter.unusedVariables false
set_option linter.unusedSimpArgs false
set_option maxRecDepth 20000
set_option maxHeartbeats 4000000
def isF (F : List Int) (x : Int) : Prop := ∃ y ∈ F, y = x
noncomputable instance dcIf (F : List Int) (x : Int) : Decidable (isF F x) := Classical.propDecidable _
theorem isF_get {F : List Int} {x : Int} {i : Nat} (h : i < F.length) (e : F.getD i 0 = x) : isF F x := ⟨F.getD i 0, by rw [show F.getD i 0 = F[i] by simp [h]]; exact List.getElem_mem h, e⟩
theorem isF_no {F : List Int} {x : Int} (h : ∀ j, j < F.length → F.getD j 0 ≠ x) : ¬ isF F x := by
 rintro ⟨y, hy, rfl⟩
 obtain ⟨k, hk, e⟩ := List.getElem_of_mem hy
 exact h k hk (by simp [hk, e])
noncomputable def lyL (G : Grp) : Nat → List Rep
 | 0 => []
 | i + 1 => if isF G.fa (i : Int) then lyL G i else lyL G i ++ [G.rs.getD i Rep0]
noncomputable def ly (G : Grp) : List Rep := lyL G G.rs.length
theorem AS {G : Grp} {i : Nat} (h : isF G.fa (i : Int)) : lyL G (i + 1) = lyL G i := if_pos h
theorem AT {G : Grp} {i : Nat} (h : ¬ isF G.fa (i : Int)) : lyL G (i + 1) = lyL G i ++ [G.rs.getD i Rep0] := if_neg h
theorem N6 (G : Grp) : ∀ i, (lyL G i).length ≤ i
 | 0 => Nat.le_refl _
 | i + 1 => by
  have := N6 G i
  by_cases h : isF G.fa (i : Int)
  ·rw [AS h]; omega
  ·rw [AT h, List.length_append]; simp only [List.length_cons, List.length_nil]; omega
def lgB (L : List Rep) : Nat → List ByteArray
 | 0 => []
 | i + 1 => if (L.getD i Rep0).lg.length > (lgB L i).length then (L.getD i Rep0).lg else lgB L i
noncomputable def lgS (G : Grp) : Nat → List ByteArray
 | 0 => []
 | i + 1 => if ¬ isF G.fa (i : Int) ∧ (G.rs.getD i Rep0).lg.length > (lgS G i).length then (G.rs.getD i Rep0).lg else lgS G i
theorem lgB_y {L : List Rep} {i : Nat} (h : (L.getD i Rep0).lg.length > (lgB L i).length) : lgB L (i + 1) = (L.getD i Rep0).lg := if_pos h
theorem lgB_n {L : List Rep} {i : Nat} (h : ¬ (L.getD i Rep0).lg.length > (lgB L i).length) : lgB L (i + 1) = lgB L i := if_neg h
theorem lgB_app {L : List Rep} {x : Rep} : ∀ {i : Nat}, i ≤ L.length → lgB (L ++ [x]) i = lgB L i
 | 0, _ => rfl
 | i + 1, h => by
  have e : (L ++ [x]).getD i Rep0 = L.getD i Rep0 := by simp [List.getElem?_append_left (show i < L.length by omega)]
  unfold lgB; rw [e, lgB_app (by omega)]
noncomputable def lgO (G : Grp) : List ByteArray := lgB (ly G) (ly G).length
theorem lg_eq (G : Grp) : ∀ i, lgB (lyL G i) (lyL G i).length = lgS G i
 | 0 => rfl
 | i + 1 => by
  have ih := lg_eq G i
  by_cases h : isF G.fa (i : Int)
  ·rw [AS h, ih]; exact (if_neg (fun q => q.1 h)).symm
  ·rw [AT h, List.length_append]
   show lgB _ ((lyL G i).length + 1) = _
   have e : (lyL G i ++ [G.rs.getD i Rep0]).getD (lyL G i).length Rep0 = G.rs.getD i Rep0 := by simp
   have e2 : lgB (lyL G i ++ [G.rs.getD i Rep0]) (lyL G i).length = lgS G i := by rw [lgB_app (Nat.le_refl _), ih]
   by_cases q : (G.rs.getD i Rep0).lg.length > (lgS G i).length
   ·rw [lgB_y (by rw [e, e2]; exact q), e]; exact (if_pos ⟨h, q⟩).symm
   ·rw [lgB_n (by rw [e, e2]; exact q), e2]; exact (if_neg (fun z => q z.2)).symm
theorem lgO_eq (G : Grp) : lgO G = lgS G G.rs.length := lg_eq G _
def bO (l : List ByteArray) : V := if l = [] then .nsl else .sl false false (l.map tT)
theorem bO_0 {l : List ByteArray} (h : l = []) : bO l = .nsl := if_pos h
theorem bO_1 {l : List ByteArray} (h : l ≠ []) : bO l = .sl false false (l.map tT) := if_neg h
theorem Y4 {α : Type} (f : α → List V) (d : α) {L : List α} {k : Nat} (h : k < L.length) : (L.map f)[0 + ((k : Int)).toNat]? = some (f (L.getD k d)) := by rw [Nat.zero_add]; simp [h]
def repV (R : Rep) : List V := [.int .i64 R.id, .int .i64 R.nd, .int .i64 R.vw, .bool R.ac, .sl false false (R.sl.map Slt.T), .sl false false (R.cs.map (Ct.T false)), .sl false false (R.lg.map tT), .sl false false (R.ch.map Msg.T)]
structure LY where
 i : Nat
 o : V
 b : Nat
 m : Nat
 g : Heap
structure LyI (G : Grp) (h : Heap) (n : Nat) (a : LY) : Prop where
 il : a.i ≤ G.rs.length
 old : ∀ j b, j < n → h j = some b → a.g j = some b
 out : LsOK repV 8 54 n (lyL G a.i) a.o a.b a.m a.g
 mm : n ≤ a.m
theorem s278 (F : List Int) (x : Int) (b : Bool) (hF : F.length ≤ 1048576) : ∃ k : Int, ((0 ≤ k → isF F x) ∧ (isF F x → 0 ≤ k)) ∧ Pure En 278 [.one (.sl b (F.map iT)), .one (.int .i64 x)] [.one (.int .i64 k)] := by
 have hl : (F.map iT).length = F.length := List.length_map ..
 refine Pure.of_evX (st := []) Tryz.func278 rfl kb ?_
 refine D4 (fun (i : Nat) => [.sl false b (F.map iT), .int .i64 x, .unk, .unk, .unk, .unk, .unk, .int .i64 ((F.map iT).length : Int), .int .i64 i]) (fun (i : Nat) => i ≤ F.length ∧ ∀ j, j < i → F.getD j 0 ≠ x) (fun (i : Nat) => F.length - i) 0 ?_ ?_ ?_
 ·exact ⟨Nat.zero_le _, F6⟩
 ·(repeat first | exact LE.nil _ | refine LE.unk _ _ ?_ | refine LE.eq _ _ _ rfl ?_)
 intro i hI ih
 obtain ⟨u0, u2⟩ := hI
 refine A3 (st := []) ?_
 refine br ?_ ?_ <;> intro h2_0
 ·(refine C0 (D1 (by first | rfl | assumption | (first | exact A7 iT 0 (k := i) (by omega))) rfl ?_))
  refine br ?_ ?_ <;> intro h4_5
  ·exact ⟨(i : Int), ⟨fun _ => isF_get (by omega) h4_5.symm, fun _ => by omega⟩, C2 rfl rfl⟩
  ·refine C1 ?_
   exact T5 (ih (i + 1) ⟨by omega, E0 u2 (fun e => h4_5 e.symm)⟩ (by omega)) (by (repeat first | exact LE.nil _ | refine LE.unk _ _ ?_ | refine LE.eq _ _ _ rfl ?_))
 ·exact ⟨-1, ⟨fun q => absurd q (by decide), fun q => absurd q (isF_no fun j hj => u2 j (by omega))⟩, C2 rfl rfl⟩
theorem s231 (F : List Int) (x : Int) (b : Bool) (hF : F.length ≤ 1048576) : Pure En 231 [.one (.sl b (F.map iT)), .one (.int .i64 x)] [.one (.bool (decide (isF F x)))] := by
 refine Pure.of_ev (st := []) Tryz.func231 rfl kb ?_
 refine J3 (s278 F x b hF) rfl j2 ?_
 rintro k h1_2
 try dsimp only at h1_2
 refine br ?_ ?_ <;> intro h1_3
 ·first | (refine C3 rfl ?_; exact h1_2.1 (by omega)) | (refine B7 rfl ?_; intro q; have := h1_2.2 q; omega)
 ·first | (refine C3 rfl ?_; exact h1_2.1 (by omega)) | (refine B7 rfl ?_; intro q; have := h1_2.2 q; omega)
theorem o172 (G : Grp) (x : Int) (hF : G.fa.length ≤ 1048576) {id : Nat} {h : Heap} {n : Nat} (hid : id < n) (hh : h id = some ⟨[[.int .i64 G.nd, .sl false false (G.fa.map iT), .sl false false (G.rs.map Rep.T), .sl false false (G.wi.map Pc.T), .sl false false (G.se.map Msg.T)]], 5, 67⟩) : V.Open En 172 [.ptr id 0 0, .int .i64 x] h n (.bool (decide (isF G.fa x))) [] n := by
 refine V.Open.of_ev (st := []) Tryz.func172 rfl kb ?_
 refine A2 ?_ (by exact Q0) (by exact Q4)
 refine B8 (s231 G.fa x false hF) rfl j2 ?_ ?_ <;> intro h1_5
 ·first
  | (rw [decide_eq_true h1_5]; exact fiO rfl rfl (leWr (fun j hj => absurd hj List.not_mem_nil) (fun j hj hn => by simp (disch := omega) only [↓app0, ↓appC, ↓updS, ↓updN])) (Nat.le_refl _))
  | (rw [decide_eq_false h1_5]; exact fiO rfl rfl (leWr (fun j hj => absurd hj List.not_mem_nil) (fun j hj hn => by simp (disch := omega) only [↓app0, ↓appC, ↓updS, ↓updN])) (Nat.le_refl _))
 ·first
  | (rw [decide_eq_true h1_5]; exact fiO rfl rfl (leWr (fun j hj => absurd hj List.not_mem_nil) (fun j hj hn => by simp (disch := omega) only [↓app0, ↓appC, ↓updS, ↓updN])) (Nat.le_refl _))
  | (rw [decide_eq_false h1_5]; exact fiO rfl rfl (leWr (fun j hj => absurd hj List.not_mem_nil) (fun j hj hn => by simp (disch := omega) only [↓app0, ↓appC, ↓updS, ↓updN])) (Nat.le_refl _))
theorem r103 (F : List Int) (x : Int) (b : Bool) (hF : F.length ≤ 1048576) : Pure En 103 [.one (.sl b (F.map iT)), .one (.int .i64 x)] [.one (.bool (decide (isF F x)))] := by
 have hl : (F.map iT).length = F.length := List.length_map ..
 refine Pure.of_ev (st := []) Tryz.func103 rfl kb ?_
 refine D4 (fun (i : Nat) => [.sl false b (F.map iT), .int .i64 x, .unk, .unk, .unk, .int .i64 i]) (fun (i : Nat) => i ≤ F.length ∧ ∀ j, j < i → F.getD j 0 ≠ x) (fun (i : Nat) => F.length - i) 0 ?_ ?_ ?_
 ·exact ⟨Nat.zero_le _, F6⟩
 ·(repeat first | exact LE.nil _ | refine LE.unk _ _ ?_ | refine LE.eq _ _ _ rfl ?_)
 intro i hI ih
 obtain ⟨u0, u2⟩ := hI
 refine A3 (st := []) ?_
 refine br ?_ ?_ <;> intro h2_3
 ·(refine C0 (D1 (by first | rfl | assumption | (first | exact A7 iT 0 (k := i) (by omega))) rfl ?_))
  refine br ?_ ?_ <;> intro h4_5
  ·exact C3 rfl (isF_get (by omega) h4_5)
  ·refine C1 ?_
   exact T5 (ih (i + 1) ⟨by omega, E0 u2 h4_5⟩ (by omega)) (by (repeat first | exact LE.nil _ | refine LE.unk _ _ ?_ | refine LE.eq _ _ _ rfl ?_))
 ·exact B7 rfl (isF_no fun j hj => u2 j (by omega))
theorem o104 (G : Grp) (hF : G.fa.length ≤ 1048576) (hR : G.rs.length ≤ 1048576) (hne : ∀ i, G.rs.length ≤ i → lyL G i ≠ []) {id : Nat} {h : Heap} {n : Nat} (hid : id < n) (hh : h id = some ⟨[[.int .i64 G.nd, .sl false false (G.fa.map iT), .sl false false (G.rs.map Rep.T), .sl false false (G.wi.map Pc.T), .sl false false (G.se.map Msg.T)]], 5, 67⟩) :
  ∃ a : Nat × Nat, (n ≤ a.1 ∧ a.1 < a.2) ∧ V.Open En 104 [.ptr id 0 0] h n (.view a.1 0 (ly G).length) [(a.1, some ⟨(ly G).map repV, 8, 54⟩)] a.2 := by
 have hl : (G.rs.map Rep.T).length = G.rs.length := List.length_map ..
 refine V.Open.of_evX (st := [7]) Tryz.func104 rfl kb ?_
 refine A2 ?_ (by exact Q9) (by exact Q4)
 refine A9 (fun (a : LY) => [.ptr id 0 0, .unk, .unk, a.o, .unk, .unk, .unk, .unk, .unk, .sl false false (G.rs.map Rep.T), .int .i64 ((G.rs.map Rep.T).length : Int), .int .i64 a.i]) (fun (a : LY) => a.g) (fun (a : LY) => a.m) (fun (a : LY) => LyI G h n a) (fun (a : LY) => G.rs.length - a.i) ⟨0, .nsl, 0, n, h⟩ ?_ ?_ ?_ ?_ ?_
 ·exact ⟨Nat.zero_le _, fun _ _ _ hb => hb, .inl ⟨rfl, rfl⟩, Nat.le_refl _⟩
 ·(repeat first | exact LE.nil _ | refine LE.unk _ _ ?_ | refine LE.eq _ _ _ rfl ?_)
 ·exact LessH.refl _
 ·exact Nat.le_refl _
 intro ⟨i, o, b, mm, g⟩ hI ih
 have q0 := hI.il
 have hg0 := hI.old id _ hid hh
 have q4 := hI.mm
 dsimp only at q0 hg0 q4 ⊢
 have hlen := N6 G i
 rcases hI.out with ⟨e0, e1⟩ | ⟨e1, hb1, hb2⟩
 all_goals dsimp only at e1
 ·skip
  subst e1
  refine A3 (st := [7]) ?_
  refine br ?_ ?_ <;> intro h3_0
  ·(refine C0 (D1 (by first | rfl | assumption | (exact A7 Rep.T Rep0 (k := i) (by omega))) rfl ?_))
   (apply est (u := .agg [.int _ _, .int _ _, .int _ _, .bool _, _, _, _, _]) j3; exact Q9; exact Q4; exact j2; rfl; rfl; exact kb; rfl)
   refine U5 (o172 G (i : Int) hF (id := id) ?_ ?_) rfl j2 ?_ ?_
   ·(first | omega | assumption | exact Q9)
   ·(first | omega | assumption | exact Q9)
   all_goals intro h5_2
   ·refine H2 fun GG hGG => ?_
    refine C1 ?_
    first | (exact C9 (ih ⟨i + 1, .nsl, b, mm + 1, GG⟩ ⟨by dsimp only; omega, fun j bb hj hb => by dsimp only; rw [hGG]; have h9 := hI.old j bb hj hb; dsimp only at h9; (simp (disch := (first | omega | assumption)) only [↓appC, ↓updN, ↓updS, ↓app0]); exact h9, by dsimp only; rw [AS (of_decide_eq_true h5_2)]; exact .inl ⟨e0, rfl⟩, by dsimp only; omega⟩ (by dsimp only; omega)) (by (repeat first | exact LE.nil _ | refine LE.unk _ _ ?_ | refine LE.eq _ _ _ rfl ?_)) (LessH.refl _) (Nat.le_refl _)) | (exact C9 (ih ⟨i + 1, .view (mm + 1 + 1) 0 1, mm + 1 + 1, mm + 1 + 1 + 1, GG⟩ ⟨by dsimp only; omega, fun j bb hj hb => by dsimp only; rw [hGG]; have h9 := hI.old j bb hj hb; dsimp only at h9; (simp (disch := (first | omega | assumption)) only [↓appC, ↓updN, ↓updS, ↓app0]); exact h9, by dsimp only; rw [AT (of_decide_eq_false h5_2)]; refine .inr ⟨?_, ?_, by omega, by omega⟩; (rw [List.length_append]; rw [e0]; rfl); (rw [hGG, List.map_append]; rw [e0]; exact Q9), by dsimp only; omega⟩ (by dsimp only; omega)) (by (repeat first | exact LE.nil _ | refine LE.unk _ _ ?_ | refine LE.eq _ _ _ rfl ?_)) (LessH.refl _) (Nat.le_refl _))
   ·(apply D2 (vs := [.int _ _, .int _ _, .int _ _, .bool _, _, _, _, _]) j2; exact Q9; exact Q4; rfl; exact kb; rfl)
    refine F2 (es := [[.int _ _, .int _ _, .int _ _, .bool _, _, _, _, _]]) j4 kz kb rfl rfl ?_
    (apply ean (s' := 128) (es := [[.int _ _, .int _ _, .int _ _, .bool _, _, _, _, _]]) rfl j3 kz; (first | rfl | (apply F8 rfl; exact Q9; (first | exact Nat.le_refl _ | omega); rfl)); exact Q7; exact Q5; exact Q5; exact Q5)
    refine H2 fun GG hGG => ?_
    refine C1 ?_
    first | (exact C9 (ih ⟨i + 1, .nsl, b, mm + 1, GG⟩ ⟨by dsimp only; omega, fun j bb hj hb => by dsimp only; rw [hGG]; have h9 := hI.old j bb hj hb; dsimp only at h9; (simp (disch := (first | omega | assumption)) only [↓appC, ↓updN, ↓updS, ↓app0]); exact h9, by dsimp only; rw [AS (of_decide_eq_true h5_2)]; exact .inl ⟨e0, rfl⟩, by dsimp only; omega⟩ (by dsimp only; omega)) (by (repeat first | exact LE.nil _ | refine LE.unk _ _ ?_ | refine LE.eq _ _ _ rfl ?_)) (LessH.refl _) (Nat.le_refl _)) | (exact C9 (ih ⟨i + 1, .view (mm + 1 + 1) 0 1, mm + 1 + 1, mm + 1 + 1 + 1, GG⟩ ⟨by dsimp only; omega, fun j bb hj hb => by dsimp only; rw [hGG]; have h9 := hI.old j bb hj hb; dsimp only at h9; (simp (disch := (first | omega | assumption)) only [↓appC, ↓updN, ↓updS, ↓app0]); exact h9, by dsimp only; rw [AT (of_decide_eq_false h5_2)]; refine .inr ⟨?_, ?_, by omega, by omega⟩; (rw [List.length_append]; rw [e0]; rfl); (rw [hGG, List.map_append]; rw [e0]; exact Q9), by dsimp only; omega⟩ (by dsimp only; omega)) (by (repeat first | exact LE.nil _ | refine LE.unk _ _ ?_ | refine LE.eq _ _ _ rfl ?_)) (LessH.refl _) (Nat.le_refl _))
  ·exact absurd e0 (hne i (by omega))
 ·skip
  dsimp only at hb1 hb2
  subst e1
  refine A3 (st := [7]) ?_
  refine br ?_ ?_ <;> intro h3_0
  ·(refine C0 (D1 (by first | rfl | assumption | (exact A7 Rep.T Rep0 (k := i) (by omega))) rfl ?_))
   (apply est (u := .agg [.int _ _, .int _ _, .int _ _, .bool _, _, _, _, _]) j3; exact Q9; exact Q4; exact j2; rfl; rfl; exact kb; rfl)
   refine U5 (o172 G (i : Int) hF (id := id) ?_ ?_) rfl j2 ?_ ?_
   ·(first | omega | assumption | exact Q9)
   ·(first | omega | assumption | exact Q9)
   all_goals intro h5_2
   ·refine H2 fun GG hGG => ?_
    refine C1 ?_
    first | (exact C9 (ih ⟨i + 1, .view b 0 (lyL G i).length, b, mm + 1, GG⟩ ⟨by dsimp only; omega, fun j bb hj hb => by dsimp only; rw [hGG]; have h9 := hI.old j bb hj hb; dsimp only at h9; (simp (disch := (first | omega | assumption)) only [↓appC, ↓updN, ↓updS, ↓app0]); exact h9, by dsimp only; rw [AS (of_decide_eq_true h5_2)]; refine .inr ⟨rfl, ?_, by omega, by omega⟩; rw [hGG]; exact Q9, by dsimp only; omega⟩ (by dsimp only; omega)) (by (repeat first | exact LE.nil _ | refine LE.unk _ _ ?_ | refine LE.eq _ _ _ rfl ?_)) (LessH.refl _) (Nat.le_refl _)) | (exact C9 (ih ⟨i + 1, .view (mm + 1 + 1) 0 ((lyL G i).length + 1), mm + 1 + 1, mm + 1 + 1 + 1, GG⟩ ⟨by dsimp only; omega, fun j bb hj hb => by dsimp only; rw [hGG]; have h9 := hI.old j bb hj hb; dsimp only at h9; (simp (disch := (first | omega | assumption)) only [↓appC, ↓updN, ↓updS, ↓app0]); exact h9, by dsimp only; rw [AT (of_decide_eq_false h5_2)]; refine .inr ⟨?_, ?_, by omega, by omega⟩; (rw [List.length_append]; rfl); (rw [hGG, List.map_append]; exact Q9), by dsimp only; omega⟩ (by dsimp only; omega)) (by (repeat first | exact LE.nil _ | refine LE.unk _ _ ?_ | refine LE.eq _ _ _ rfl ?_)) (LessH.refl _) (Nat.le_refl _))
   ·(apply D2 (vs := [.int _ _, .int _ _, .int _ _, .bool _, _, _, _, _]) j2; exact Q9; exact Q4; rfl; exact kb; rfl)
    refine F2 (es := [[.int _ _, .int _ _, .int _ _, .bool _, _, _, _, _]]) j4 kz kb rfl rfl ?_
    (apply eap (s' := 128) (es := [[.int _ _, .int _ _, .int _ _, .bool _, _, _, _, _]]) rfl rfl; exact Q9; exact j2; exact Q23; exact j2; exact kz; (first | rfl | (apply F8 rfl; exact Q9; (first | exact Nat.le_refl _ | omega); rfl)); exact Q7; exact Q5; exact Q5)
    refine H2 fun GG hGG => ?_
    refine C1 ?_
    first | (exact C9 (ih ⟨i + 1, .view b 0 (lyL G i).length, b, mm + 1, GG⟩ ⟨by dsimp only; omega, fun j bb hj hb => by dsimp only; rw [hGG]; have h9 := hI.old j bb hj hb; dsimp only at h9; (simp (disch := (first | omega | assumption)) only [↓appC, ↓updN, ↓updS, ↓app0]); exact h9, by dsimp only; rw [AS (of_decide_eq_true h5_2)]; refine .inr ⟨rfl, ?_, by omega, by omega⟩; rw [hGG]; exact Q9, by dsimp only; omega⟩ (by dsimp only; omega)) (by (repeat first | exact LE.nil _ | refine LE.unk _ _ ?_ | refine LE.eq _ _ _ rfl ?_)) (LessH.refl _) (Nat.le_refl _)) | (exact C9 (ih ⟨i + 1, .view (mm + 1 + 1) 0 ((lyL G i).length + 1), mm + 1 + 1, mm + 1 + 1 + 1, GG⟩ ⟨by dsimp only; omega, fun j bb hj hb => by dsimp only; rw [hGG]; have h9 := hI.old j bb hj hb; dsimp only at h9; (simp (disch := (first | omega | assumption)) only [↓appC, ↓updN, ↓updS, ↓app0]); exact h9, by dsimp only; rw [AT (of_decide_eq_false h5_2)]; refine .inr ⟨?_, ?_, by omega, by omega⟩; (rw [List.length_append]; rfl); (rw [hGG, List.map_append]; exact Q9), by dsimp only; omega⟩ (by dsimp only; omega)) (by (repeat first | exact LE.nil _ | refine LE.unk _ _ ?_ | refine LE.eq _ _ _ rfl ?_)) (LessH.refl _) (Nat.le_refl _))
  ·obtain rfl : i = G.rs.length := by omega
   exact ⟨(b, mm), ⟨by omega, by omega⟩, fiO rfl rfl (fun hz id2 b2 hb2 => by
    have hb2 : upd h b (some ⟨(ly G).map repV, 8, 54⟩) id2 = some b2 := hb2
    by_cases e : id2 = b
    ·subst e; rw [upd_same] at hb2; rw [← Option.some.inj hb2]; exact hb1
    ·rw [upd_ne _ _ e] at hb2
     refine hI.old id2 b2 ?_ hb2
     rcases Nat.lt_or_ge id2 n with h1 | h1
     ·exact h1
     ·rw [hz id2 h1] at hb2; cases hb2) (Nat.le_refl _)⟩
open Go.V
set_option linter.unusedVariables false
set_option linter.unusedSimpArgs false
set_option maxRecDepth 20000
set_option maxHeartbeats 4000000
structure LG where
 i : Nat
 o : V
 m : Nat
structure LM where
 i : Nat
 o : V
 m : Nat
 g : Heap
structure LmI (G : Grp) (h : Heap) (n b : Nat) (a : LM) : Prop where
 il : a.i ≤ (ly G).length
 ob : a.o = bO (lgB (ly G) a.i)
 old : ∀ j bb, j < n → h j = some bb → a.g j = some bb
 blk : a.g b = some ⟨(ly G).map repV, 8, 54⟩
 nm : n ≤ b ∧ b < a.m
def bS (l : List ByteArray) : V := if l = [] then .view 1 0 0 else .sl false false (l.map tT)
theorem bS_0 {l : List ByteArray} (h : l = []) : bS l = .view 1 0 0 := if_pos h
theorem bS_1 {l : List ByteArray} (h : l ≠ []) : bS l = .sl false false (l.map tT) := if_neg h
theorem AU {G : Grp} {i : Nat} (h : ¬ isF G.fa (i : Int)) (q : (G.rs.getD i Rep0).lg.length > (lgS G i).length) : lgS G (i + 1) = (G.rs.getD i Rep0).lg := if_pos ⟨h, q⟩
theorem AV {G : Grp} {i : Nat} (h : ¬ (¬ isF G.fa (i : Int) ∧ (G.rs.getD i Rep0).lg.length > (lgS G i).length)) : lgS G (i + 1) = lgS G i := if_neg h
theorem rowsF (L : List ByteArray) : (L.map tT).map (fun x => List.map (T.toV false) x) = L.map (vT tT) := by rw [List.map_map]; rfl
theorem gtne {L : List ByteArray} {k : Nat} (h : L.length > k) : L ≠ [] := fun e => by rw [e, List.length_nil] at h; omega
theorem o106 (G : Grp) (hF : G.fa.length ≤ 1048576) (hR : G.rs.length ≤ 1048576) (hne : ∀ i, G.rs.length ≤ i → lyL G i ≠ []) {id : Nat} {h : Heap} {n : Nat} (hid : id < n) (hh : h id = some ⟨[[.int .i64 G.nd, .sl false false (G.fa.map iT), .sl false false (G.rs.map Rep.T), .sl false false (G.wi.map Pc.T), .sl false false (G.se.map Msg.T)]], 5, 67⟩) :
  ∃ m : Nat, n ≤ m ∧ V.Open En 106 [.ptr id 0 0] h n (bO (lgO G)) [] m := by
 refine V.Open.of_evX (st := [7]) Tryz.func106 rfl kb ?_
 refine eopX (o104 G hF hR hne hid hh) rfl j2 ?_
 rintro ⟨b, m0⟩ h2_1
 try dsimp only at h2_1
 refine wlG fun g0 hg0 => ?_
 refine A9 (fun (a : LM) => [.ptr id 0 0, .unk, .unk, a.o, .unk, .unk, .unk, .view b 0 (ly G).length, .int .i64 ((ly G).length : Int), .int .i64 a.i]) (fun (a : LM) => a.g) (fun (a : LM) => a.m) (fun (a : LM) => LmI G h n b a) (fun (a : LM) => (ly G).length - a.i) ⟨0, .nsl, m0, g0⟩ ?_ ?_ ?_ ?_ ?_
 ·exact ⟨Nat.zero_le _, (bO_0 rfl).symm, fun j bb hj hb => by dsimp only; rw [hg0]; (simp (disch := (first | omega | assumption)) only [↓appC, ↓updN, ↓updS, ↓app0]); exact hb, by dsimp only; rw [hg0]; (simp (disch := (first | omega | assumption)) only [↓appC, ↓updN, ↓updS, ↓app0]), h2_1⟩
 ·(repeat first | exact LE.nil _ | refine LE.unk _ _ ?_ | refine LE.eq _ _ _ rfl ?_)
 ·exact LessH.refl _
 ·exact Nat.le_refl _
 intro ⟨i, o, m, g⟩ hI ih
 have u0 := hI.il
 have u1 := hI.ob
 have hb0 := hI.blk
 have u2 := hI.nm.2
 dsimp only at u0 u1 u2 hb0 ⊢
 have hly := N6 G G.rs.length
 have hly2 : (ly G).length ≤ G.rs.length := hly
 have hl5 : (((ly G).getD i Rep0).lg.map tT).length = ((ly G).getD i Rep0).lg.length := List.length_map ..
 have hl6 : ((lgB (ly G) i).map tT).length = (lgB (ly G) i).length := List.length_map ..
 rcases Classical.em (lgB (ly G) i = []) with hz | hz
 ·skip
  rw [bO_0 hz] at u1
  subst u1
  refine A3 (st := [7]) ?_
  refine br ?_ ?_ <;> intro h3_0
  ·(refine D7 (by exact Q9) ⟨rfl, C0 ?_⟩)
   (apply D2 (vs := [.int _ _, .int _ _, .int _ _, .bool _, _, _, _, _]) j2; exact Q9; (first | rfl | assumption | exact Y4 repV Rep0 (k := i) (by omega)); rfl; exact kb; rfl)
   (apply est (u := .agg [.int _ _, .int _ _, .int _ _, .bool _, _, _, _, _]) j3; exact Q9; (first | rfl | assumption | exact Y4 repV Rep0 (k := i) (by omega)); exact j2; rfl; rfl; exact kb; rfl)
   refine A2 ?_ (by exact Q9) (by (first | rfl | assumption | exact Y4 repV Rep0 (k := i) (by omega)))
   refine br ?_ ?_ <;> intro h5_5
   ·refine A2 ?_ (by exact Q9) (by (first | rfl | assumption | exact Y4 repV Rep0 (k := i) (by omega)))
    refine H2 fun GG hGG => ?_
    refine C1 ?_
    first | (exact C9 (ih ⟨i + 1, .sl false false (((ly G).getD i Rep0).lg.map tT), m + 1, GG⟩ ⟨by dsimp only; omega, by dsimp only; rw [lgB_y (L := ly G) (i := i) (by first | omega | (rw [hz, List.length_nil]; omega)), bO_1 (gtne (k := 0) (by omega))], fun j bb hj hb => by dsimp only; rw [hGG]; have h9 := hI.old j bb hj hb; dsimp only at h9; (simp (disch := (first | omega | assumption)) only [↓appC, ↓updN, ↓updS, ↓app0]); exact h9, by dsimp only; rw [hGG]; have h9 := hI.blk; dsimp only at h9; (simp (disch := (first | omega | assumption)) only [↓appC, ↓updN, ↓updS, ↓app0]); exact h9, ⟨h2_1.1, by dsimp only; omega⟩⟩ (by dsimp only; omega)) (by (repeat first | exact LE.nil _ | refine LE.unk _ _ ?_ | refine LE.eq _ _ _ rfl ?_)) (LessH.refl _) (Nat.le_refl _)) | (exact C9 (ih ⟨i + 1, V.nsl, m + 1, GG⟩ ⟨by dsimp only; omega, by dsimp only; rw [lgB_n (L := ly G) (i := i) (by first | omega | (rw [hz, List.length_nil]; omega))]; exact (bO_0 hz).symm, fun j bb hj hb => by dsimp only; rw [hGG]; have h9 := hI.old j bb hj hb; dsimp only at h9; (simp (disch := (first | omega | assumption)) only [↓appC, ↓updN, ↓updS, ↓app0]); exact h9, by dsimp only; rw [hGG]; have h9 := hI.blk; dsimp only at h9; (simp (disch := (first | omega | assumption)) only [↓appC, ↓updN, ↓updS, ↓app0]); exact h9, ⟨h2_1.1, by dsimp only; omega⟩⟩ (by dsimp only; omega)) (by (repeat first | exact LE.nil _ | refine LE.unk _ _ ?_ | refine LE.eq _ _ _ rfl ?_)) (LessH.refl _) (Nat.le_refl _))
   ·refine H2 fun GG hGG => ?_
    refine C1 ?_
    first | (exact C9 (ih ⟨i + 1, .sl false false (((ly G).getD i Rep0).lg.map tT), m + 1, GG⟩ ⟨by dsimp only; omega, by dsimp only; rw [lgB_y (L := ly G) (i := i) (by first | omega | (rw [hz, List.length_nil]; omega)), bO_1 (gtne (k := 0) (by omega))], fun j bb hj hb => by dsimp only; rw [hGG]; have h9 := hI.old j bb hj hb; dsimp only at h9; (simp (disch := (first | omega | assumption)) only [↓appC, ↓updN, ↓updS, ↓app0]); exact h9, by dsimp only; rw [hGG]; have h9 := hI.blk; dsimp only at h9; (simp (disch := (first | omega | assumption)) only [↓appC, ↓updN, ↓updS, ↓app0]); exact h9, ⟨h2_1.1, by dsimp only; omega⟩⟩ (by dsimp only; omega)) (by (repeat first | exact LE.nil _ | refine LE.unk _ _ ?_ | refine LE.eq _ _ _ rfl ?_)) (LessH.refl _) (Nat.le_refl _)) | (exact C9 (ih ⟨i + 1, V.nsl, m + 1, GG⟩ ⟨by dsimp only; omega, by dsimp only; rw [lgB_n (L := ly G) (i := i) (by first | omega | (rw [hz, List.length_nil]; omega))]; exact (bO_0 hz).symm, fun j bb hj hb => by dsimp only; rw [hGG]; have h9 := hI.old j bb hj hb; dsimp only at h9; (simp (disch := (first | omega | assumption)) only [↓appC, ↓updN, ↓updS, ↓app0]); exact h9, by dsimp only; rw [hGG]; have h9 := hI.blk; dsimp only at h9; (simp (disch := (first | omega | assumption)) only [↓appC, ↓updN, ↓updS, ↓app0]); exact h9, ⟨h2_1.1, by dsimp only; omega⟩⟩ (by dsimp only; omega)) (by (repeat first | exact LE.nil _ | refine LE.unk _ _ ?_ | refine LE.eq _ _ _ rfl ?_)) (LessH.refl _) (Nat.le_refl _))
  ·have hi : lgO G = lgB (ly G) i := by unfold lgO; rw [show i = (ly G).length by omega]
   exact ⟨m, by omega, fiO rfl (show V.nsl = bO (lgO G) from by rw [hi]; exact (bO_0 hz).symm) (fun hz2 id2 b2 hb2 => by
    have hb2 : h id2 = some b2 := hb2
    refine hI.old id2 b2 ?_ hb2
    rcases Nat.lt_or_ge id2 n with h1 | h1
    ·exact h1
    ·rw [hz2 id2 h1] at hb2; cases hb2) (Nat.le_refl _)⟩
 ·skip
  rw [bO_1 hz] at u1
  subst u1
  refine A3 (st := [7]) ?_
  refine br ?_ ?_ <;> intro h3_0
  ·(refine D7 (by exact Q9) ⟨rfl, C0 ?_⟩)
   (apply D2 (vs := [.int _ _, .int _ _, .int _ _, .bool _, _, _, _, _]) j2; exact Q9; (first | rfl | assumption | exact Y4 repV Rep0 (k := i) (by omega)); rfl; exact kb; rfl)
   (apply est (u := .agg [.int _ _, .int _ _, .int _ _, .bool _, _, _, _, _]) j3; exact Q9; (first | rfl | assumption | exact Y4 repV Rep0 (k := i) (by omega)); exact j2; rfl; rfl; exact kb; rfl)
   refine A2 ?_ (by exact Q9) (by (first | rfl | assumption | exact Y4 repV Rep0 (k := i) (by omega)))
   refine br ?_ ?_ <;> intro h5_5
   ·refine A2 ?_ (by exact Q9) (by (first | rfl | assumption | exact Y4 repV Rep0 (k := i) (by omega)))
    refine H2 fun GG hGG => ?_
    refine C1 ?_
    first | (exact C9 (ih ⟨i + 1, .sl false false (((ly G).getD i Rep0).lg.map tT), m + 1, GG⟩ ⟨by dsimp only; omega, by dsimp only; rw [lgB_y (L := ly G) (i := i) (by first | omega | (rw [hz, List.length_nil]; omega)), bO_1 (gtne (k := 0) (by omega))], fun j bb hj hb => by dsimp only; rw [hGG]; have h9 := hI.old j bb hj hb; dsimp only at h9; (simp (disch := (first | omega | assumption)) only [↓appC, ↓updN, ↓updS, ↓app0]); exact h9, by dsimp only; rw [hGG]; have h9 := hI.blk; dsimp only at h9; (simp (disch := (first | omega | assumption)) only [↓appC, ↓updN, ↓updS, ↓app0]); exact h9, ⟨h2_1.1, by dsimp only; omega⟩⟩ (by dsimp only; omega)) (by (repeat first | exact LE.nil _ | refine LE.unk _ _ ?_ | refine LE.eq _ _ _ rfl ?_)) (LessH.refl _) (Nat.le_refl _)) | (exact C9 (ih ⟨i + 1, V.sl false false ((lgB (ly G) i).map tT), m + 1, GG⟩ ⟨by dsimp only; omega, by dsimp only; rw [lgB_n (L := ly G) (i := i) (by first | omega | (rw [hz, List.length_nil]; omega))]; exact (bO_1 hz).symm, fun j bb hj hb => by dsimp only; rw [hGG]; have h9 := hI.old j bb hj hb; dsimp only at h9; (simp (disch := (first | omega | assumption)) only [↓appC, ↓updN, ↓updS, ↓app0]); exact h9, by dsimp only; rw [hGG]; have h9 := hI.blk; dsimp only at h9; (simp (disch := (first | omega | assumption)) only [↓appC, ↓updN, ↓updS, ↓app0]); exact h9, ⟨h2_1.1, by dsimp only; omega⟩⟩ (by dsimp only; omega)) (by (repeat first | exact LE.nil _ | refine LE.unk _ _ ?_ | refine LE.eq _ _ _ rfl ?_)) (LessH.refl _) (Nat.le_refl _))
   ·refine H2 fun GG hGG => ?_
    refine C1 ?_
    first | (exact C9 (ih ⟨i + 1, .sl false false (((ly G).getD i Rep0).lg.map tT), m + 1, GG⟩ ⟨by dsimp only; omega, by dsimp only; rw [lgB_y (L := ly G) (i := i) (by first | omega | (rw [hz, List.length_nil]; omega)), bO_1 (gtne (k := 0) (by omega))], fun j bb hj hb => by dsimp only; rw [hGG]; have h9 := hI.old j bb hj hb; dsimp only at h9; (simp (disch := (first | omega | assumption)) only [↓appC, ↓updN, ↓updS, ↓app0]); exact h9, by dsimp only; rw [hGG]; have h9 := hI.blk; dsimp only at h9; (simp (disch := (first | omega | assumption)) only [↓appC, ↓updN, ↓updS, ↓app0]); exact h9, ⟨h2_1.1, by dsimp only; omega⟩⟩ (by dsimp only; omega)) (by (repeat first | exact LE.nil _ | refine LE.unk _ _ ?_ | refine LE.eq _ _ _ rfl ?_)) (LessH.refl _) (Nat.le_refl _)) | (exact C9 (ih ⟨i + 1, V.sl false false ((lgB (ly G) i).map tT), m + 1, GG⟩ ⟨by dsimp only; omega, by dsimp only; rw [lgB_n (L := ly G) (i := i) (by first | omega | (rw [hz, List.length_nil]; omega))]; exact (bO_1 hz).symm, fun j bb hj hb => by dsimp only; rw [hGG]; have h9 := hI.old j bb hj hb; dsimp only at h9; (simp (disch := (first | omega | assumption)) only [↓appC, ↓updN, ↓updS, ↓app0]); exact h9, by dsimp only; rw [hGG]; have h9 := hI.blk; dsimp only at h9; (simp (disch := (first | omega | assumption)) only [↓appC, ↓updN, ↓updS, ↓app0]); exact h9, ⟨h2_1.1, by dsimp only; omega⟩⟩ (by dsimp only; omega)) (by (repeat first | exact LE.nil _ | refine LE.unk _ _ ?_ | refine LE.eq _ _ _ rfl ?_)) (LessH.refl _) (Nat.le_refl _))
  ·have hi : lgO G = lgB (ly G) i := by unfold lgO; rw [show i = (ly G).length by omega]
   exact ⟨m, by omega, fiO rfl (show V.sl false false ((lgB (ly G) i).map tT) = bO (lgO G) from by rw [hi]; exact (bO_1 hz).symm) (fun hz2 id2 b2 hb2 => by
    have hb2 : h id2 = some b2 := hb2
    refine hI.old id2 b2 ?_ hb2
    rcases Nat.lt_or_ge id2 n with h1 | h1
    ·exact h1
    ·rw [hz2 id2 h1] at hb2; cases hb2) (Nat.le_refl _)⟩
theorem r105 (G : Grp) (hF : G.fa.length ≤ 1048576) (hN : (G.rs.length : Int) = G.nd) (hR : G.rs.length ≤ 1048576) (hB : ∀ i, (lgS G i).length ≤ 1048576) : Pure En 105 [.agg G.T] [.one (.sl false ((lgO G).map tT))] := by
 have hl : (G.rs.map Rep.T).length = G.rs.length := List.length_map ..
 refine Pure.of_ev (st := []) Tryz.func105 rfl kb ?_
 refine F2 (es := []) j4 kz kb rfl rfl ?_
 refine A9 (fun (a : LG) => [.unk, .ptr 0 0 0, .unk, a.o, .int .i64 a.i]) (fun (a : LG) => hp [(0, ⟨[[.int .i64 G.nd, .sl false false (G.fa.map iT), .sl false false (G.rs.map Rep.T), .sl false false (G.wi.map Pc.T), .sl false false (G.se.map Msg.T)]], 5, 67⟩), (1, ⟨[], 1, 9⟩)]) (fun (a : LG) => 2) (fun (a : LG) => a.i ≤ G.rs.length ∧ a.o = bS (lgS G a.i) ∧ a.m = 2) (fun (a : LG) => G.rs.length - a.i) ⟨0, .view 1 0 0, 2⟩ ?_ ?_ ?_ ?_ ?_
 ·exact ⟨Nat.zero_le _, (bS_0 rfl).symm, rfl⟩
 ·(repeat first | exact LE.nil _ | refine LE.unk _ _ ?_ | refine LE.eq _ _ _ rfl ?_)
 ·(repeat first | exact A5 | (refine A6 ?_ ?_; exact H3))
 ·exact Nat.le_refl _
 intro ⟨i, o, m⟩ hI ih
 obtain ⟨u0, u1, u2⟩ := hI
 dsimp only at u0 u1 u2 ⊢
 have hl5 : ((G.rs.getD i Rep0).lg.map tT).length = (G.rs.getD i Rep0).lg.length := List.length_map ..
 have hl6 : ((lgS G i).map tT).length = (lgS G i).length := List.length_map ..
 have hB2 := hB i
 rcases Classical.em (lgS G i = []) with hz | hz
 ·skip
  rw [bS_0 hz] at u1
  subst u1
  refine A3 (st := []) ?_
  refine A2 ?_ (by exact Q0) (by exact Q4)
  refine br ?_ ?_ <;> intro h3_3
  ·refine A2 ?_ (by exact Q0) (by exact Q4)
   refine B8 (r103 G.fa (i : Int) false hF) rfl j2 ?_ ?_ <;> intro h5_3
   ·refine C1 ?_
    first | (exact C9 (ih ⟨i + 1, .sl false false ((G.rs.getD i Rep0).lg.map tT), 2⟩ ⟨by dsimp only; omega, by dsimp only; rw [AU (G := G) (i := i) h5_3 (by first | omega | (rw [hz, List.length_nil]; omega)), bS_1 (gtne (k := 0) (by omega))], rfl⟩ (by dsimp only; omega)) (by (repeat first | exact LE.nil _ | refine LE.unk _ _ ?_ | refine LE.eq _ _ _ rfl ?_)) (by (repeat first | exact A5 | (refine A6 ?_ ?_; exact H3))) (Nat.le_refl _)) | (exact C9 (ih ⟨i + 1, V.view 1 0 0, 2⟩ ⟨by dsimp only; omega, by dsimp only; rw [AV (G := G) (i := i) (fun q => by first | exact q.1 h5_3 | (have := q.2; omega) | (have := q.2; rw [hz, List.length_nil] at this; omega))]; exact (bS_0 hz).symm, rfl⟩ (by dsimp only; omega)) (by (repeat first | exact LE.nil _ | refine LE.unk _ _ ?_ | refine LE.eq _ _ _ rfl ?_)) (by (repeat first | exact A5 | (refine A6 ?_ ?_; exact H3))) (Nat.le_refl _))
   ·refine A2 ?_ (by exact Q0) (by exact Q4)
    (refine C0 (D1 (by first | rfl | assumption | (exact A7 Rep.T Rep0 (k := i) (by omega))) rfl ?_))
    refine br ?_ ?_ <;> intro h5_15
    ·refine A2 ?_ (by exact Q0) (by exact Q4)
     (refine C0 (D1 (by first | rfl | assumption | (exact A7 Rep.T Rep0 (k := i) (by omega))) rfl ?_))
     refine C1 ?_
     first | (exact C9 (ih ⟨i + 1, .sl false false ((G.rs.getD i Rep0).lg.map tT), 2⟩ ⟨by dsimp only; omega, by dsimp only; rw [AU (G := G) (i := i) h5_3 (by first | omega | (rw [hz, List.length_nil]; omega)), bS_1 (gtne (k := 0) (by omega))], rfl⟩ (by dsimp only; omega)) (by (repeat first | exact LE.nil _ | refine LE.unk _ _ ?_ | refine LE.eq _ _ _ rfl ?_)) (by (repeat first | exact A5 | (refine A6 ?_ ?_; exact H3))) (Nat.le_refl _)) | (exact C9 (ih ⟨i + 1, V.view 1 0 0, 2⟩ ⟨by dsimp only; omega, by dsimp only; rw [AV (G := G) (i := i) (fun q => by first | exact q.1 h5_3 | (have := q.2; omega) | (have := q.2; rw [hz, List.length_nil] at this; omega))]; exact (bS_0 hz).symm, rfl⟩ (by dsimp only; omega)) (by (repeat first | exact LE.nil _ | refine LE.unk _ _ ?_ | refine LE.eq _ _ _ rfl ?_)) (by (repeat first | exact A5 | (refine A6 ?_ ?_; exact H3))) (Nat.le_refl _))
    ·refine C1 ?_
     first | (exact C9 (ih ⟨i + 1, .sl false false ((G.rs.getD i Rep0).lg.map tT), 2⟩ ⟨by dsimp only; omega, by dsimp only; rw [AU (G := G) (i := i) h5_3 (by first | omega | (rw [hz, List.length_nil]; omega)), bS_1 (gtne (k := 0) (by omega))], rfl⟩ (by dsimp only; omega)) (by (repeat first | exact LE.nil _ | refine LE.unk _ _ ?_ | refine LE.eq _ _ _ rfl ?_)) (by (repeat first | exact A5 | (refine A6 ?_ ?_; exact H3))) (Nat.le_refl _)) | (exact C9 (ih ⟨i + 1, V.view 1 0 0, 2⟩ ⟨by dsimp only; omega, by dsimp only; rw [AV (G := G) (i := i) (fun q => by first | exact q.1 h5_3 | (have := q.2; omega) | (have := q.2; rw [hz, List.length_nil] at this; omega))]; exact (bS_0 hz).symm, rfl⟩ (by dsimp only; omega)) (by (repeat first | exact LE.nil _ | refine LE.unk _ _ ?_ | refine LE.eq _ _ _ rfl ?_)) (by (repeat first | exact A5 | (refine A6 ?_ ?_; exact H3))) (Nat.le_refl _))
  ·refine F2 (es := []) j4 kz kb rfl rfl ?_
   (apply eap (s' := 16)  rfl rfl; exact Q0; exact j2; exact Q23; exact j2; exact kz; exact O8; exact Q33; exact Q37; exact Q37)
   obtain rfl : i = G.rs.length := by omega
   have hq : lgO G = [] := by rw [lgO_eq]; exact hz
   rw [hq]
   refine D3 [2 + 1] rfl ?_
   exact SnapL.cons _ _ _ _ (.one _ _ (.weak _ _ (B5 [] (List.mem_singleton.2 rfl) (by exact Q0) rfl rfl))) SnapL.nil
 ·skip
  rw [bS_1 hz] at u1
  subst u1
  refine A3 (st := []) ?_
  refine A2 ?_ (by exact Q0) (by exact Q4)
  refine br ?_ ?_ <;> intro h3_3
  ·refine A2 ?_ (by exact Q0) (by exact Q4)
   refine B8 (r103 G.fa (i : Int) false hF) rfl j2 ?_ ?_ <;> intro h5_3
   ·refine C1 ?_
    first | (exact C9 (ih ⟨i + 1, .sl false false ((G.rs.getD i Rep0).lg.map tT), 2⟩ ⟨by dsimp only; omega, by dsimp only; rw [AU (G := G) (i := i) h5_3 (by first | omega | (rw [hz, List.length_nil]; omega)), bS_1 (gtne (k := 0) (by omega))], rfl⟩ (by dsimp only; omega)) (by (repeat first | exact LE.nil _ | refine LE.unk _ _ ?_ | refine LE.eq _ _ _ rfl ?_)) (by (repeat first | exact A5 | (refine A6 ?_ ?_; exact H3))) (Nat.le_refl _)) | (exact C9 (ih ⟨i + 1, V.sl false false ((lgS G i).map tT), 2⟩ ⟨by dsimp only; omega, by dsimp only; rw [AV (G := G) (i := i) (fun q => by first | exact q.1 h5_3 | (have := q.2; omega) | (have := q.2; rw [hz, List.length_nil] at this; omega))]; exact (bS_1 hz).symm, rfl⟩ (by dsimp only; omega)) (by (repeat first | exact LE.nil _ | refine LE.unk _ _ ?_ | refine LE.eq _ _ _ rfl ?_)) (by (repeat first | exact A5 | (refine A6 ?_ ?_; exact H3))) (Nat.le_refl _))
   ·refine A2 ?_ (by exact Q0) (by exact Q4)
    (refine C0 (D1 (by first | rfl | assumption | (exact A7 Rep.T Rep0 (k := i) (by omega))) rfl ?_))
    refine br ?_ ?_ <;> intro h5_15
    ·refine A2 ?_ (by exact Q0) (by exact Q4)
     (refine C0 (D1 (by first | rfl | assumption | (exact A7 Rep.T Rep0 (k := i) (by omega))) rfl ?_))
     refine C1 ?_
     first | (exact C9 (ih ⟨i + 1, .sl false false ((G.rs.getD i Rep0).lg.map tT), 2⟩ ⟨by dsimp only; omega, by dsimp only; rw [AU (G := G) (i := i) h5_3 (by first | omega | (rw [hz, List.length_nil]; omega)), bS_1 (gtne (k := 0) (by omega))], rfl⟩ (by dsimp only; omega)) (by (repeat first | exact LE.nil _ | refine LE.unk _ _ ?_ | refine LE.eq _ _ _ rfl ?_)) (by (repeat first | exact A5 | (refine A6 ?_ ?_; exact H3))) (Nat.le_refl _)) | (exact C9 (ih ⟨i + 1, V.sl false false ((lgS G i).map tT), 2⟩ ⟨by dsimp only; omega, by dsimp only; rw [AV (G := G) (i := i) (fun q => by first | exact q.1 h5_3 | (have := q.2; omega) | (have := q.2; rw [hz, List.length_nil] at this; omega))]; exact (bS_1 hz).symm, rfl⟩ (by dsimp only; omega)) (by (repeat first | exact LE.nil _ | refine LE.unk _ _ ?_ | refine LE.eq _ _ _ rfl ?_)) (by (repeat first | exact A5 | (refine A6 ?_ ?_; exact H3))) (Nat.le_refl _))
    ·refine C1 ?_
     first | (exact C9 (ih ⟨i + 1, .sl false false ((G.rs.getD i Rep0).lg.map tT), 2⟩ ⟨by dsimp only; omega, by dsimp only; rw [AU (G := G) (i := i) h5_3 (by first | omega | (rw [hz, List.length_nil]; omega)), bS_1 (gtne (k := 0) (by omega))], rfl⟩ (by dsimp only; omega)) (by (repeat first | exact LE.nil _ | refine LE.unk _ _ ?_ | refine LE.eq _ _ _ rfl ?_)) (by (repeat first | exact A5 | (refine A6 ?_ ?_; exact H3))) (Nat.le_refl _)) | (exact C9 (ih ⟨i + 1, V.sl false false ((lgS G i).map tT), 2⟩ ⟨by dsimp only; omega, by dsimp only; rw [AV (G := G) (i := i) (fun q => by first | exact q.1 h5_3 | (have := q.2; omega) | (have := q.2; rw [hz, List.length_nil] at this; omega))]; exact (bS_1 hz).symm, rfl⟩ (by dsimp only; omega)) (by (repeat first | exact LE.nil _ | refine LE.unk _ _ ?_ | refine LE.eq _ _ _ rfl ?_)) (by (repeat first | exact A5 | (refine A6 ?_ ?_; exact H3))) (Nat.le_refl _))
  ·refine F2 (es := []) j4 kz kb rfl rfl ?_
   (apply eap (s' := 16)  rfl rfl; exact Q0; exact j2; exact Q23; exact j2; exact kz; exact O8; exact Q33; exact Q37; exact Q37)
   obtain rfl : i = G.rs.length := by omega
   have hq : lgO G = lgS G G.rs.length := lgO_eq G
   rw [hq]
   refine D3 [2 + 1] rfl ?_
   exact SnapL.cons _ _ _ _ (.one _ _ (H9 (f := tT) (sz := 1) (ty := 9) (L := lgS G G.rs.length) (List.mem_singleton.2 rfl) (by (simp (disch := omega) only [↓app0, ↓appC, ↓updS, ↓updN, ↓hpS, ↓hpN]); exact congrArg (fun z => some (Blk.mk z 1 9)) (rowsF _)) (by first | rfl | simp))) SnapL.nil
open Go.V
set_option linter.unusedVariables false
set_option linter.unusedSimpArgs false
set_option maxRecDepth 20000
set_option maxHeartbeats 4000000
theorem nd_sub {α : Type} [DecidableEq α] : ∀ {A B : List α}, A.Nodup → A ⊆ B → A.length ≤ B.length
 | [], _, _, _ => Nat.zero_le _
 | a :: A, B, hn, hs => by
  have ha : a ∈ B := hs List.mem_cons_self
  have hA : A ⊆ B.erase a := fun x hx => by
   have hx2 : x ≠ a := fun e => by subst e; exact (List.nodup_cons.1 hn).1 hx
   exact (List.mem_erase_of_ne hx2).2 (hs (List.mem_cons_of_mem _ hx))
  have := nd_sub (List.nodup_cons.1 hn).2 hA
  have hB : 0 < B.length := List.length_pos_of_mem ha
  rw [List.length_erase_of_mem ha] at this
  rw [List.length_cons]; omega
def lgG (G : Grp) (R : Rep) : Prop := R.lg = (lgO G).take R.lg.length
def agr (G : Grp) : Prop := ∀ j, j < G.rs.length → ¬ isF G.fa (j : Int) → lgG G (G.rs.getD j Rep0)
noncomputable instance dcAgr (G : Grp) : Decidable (G.OK ∧ agr G) := Classical.propDecidable _
noncomputable instance dcAgr2 (G : Grp) : Decidable (agr G) := Classical.propDecidable _
noncomputable instance dcLgG (G : Grp) (R : Rep) : Decidable (lgG G R) := Classical.propDecidable _
theorem ly_mem (G : Grp) : ∀ (i : Nat) (x : Rep), x ∈ lyL G i ↔ ∃ j, j < i ∧ ¬ isF G.fa (j : Int) ∧ x = G.rs.getD j Rep0
 | 0, x => by
  constructor
  ·intro h; cases h
  ·rintro ⟨j, hj, _⟩; exact absurd hj (Nat.not_lt_zero j)
 | i + 1, x => by
  by_cases h : isF G.fa (i : Int)
  ·rw [AS h, ly_mem G i x]
   constructor
   ·rintro ⟨j, h1, h2, h3⟩; exact ⟨j, by omega, h2, h3⟩
   ·rintro ⟨j, h1, h2, h3⟩; exact ⟨j, by
     rcases Nat.lt_or_ge j i with q | q
     ·exact q
     ·rw [show j = i by omega] at h2; exact absurd h h2, h2, h3⟩
  ·rw [AT h, List.mem_append, ly_mem G i x, List.mem_singleton]
   constructor
   ·rintro (⟨j, h1, h2, h3⟩ | rfl)
    ·exact ⟨j, by omega, h2, h3⟩
    ·exact ⟨i, by omega, h, rfl⟩
   ·rintro ⟨j, h1, h2, h3⟩
    rcases Nat.lt_or_ge j i with q | q
    ·exact .inl ⟨j, q, h2, h3⟩
    ·rw [show j = i by omega] at h3; exact .inr h3
theorem ly_ne {G : Grp} (h : G.OK) : ∀ i, G.rs.length ≤ i → lyL G i ≠ [] := by
 obtain ⟨⟨hn, ⟨hf, hr⟩, hl, _, _⟩, _⟩ := h
 intro i hi e
 have hF : (G.fa.length : Int) < G.nd := by rcases hn with e | e | e <;> rw [e] at hf ⊢ <;> omega
 have hp : 0 < G.nd := by rcases hn with e | e | e <;> omega
 have hall : ∀ j, j < G.rs.length → isF G.fa (j : Int) := fun j hj => Classical.byContradiction fun q => by
  have : G.rs.getD j Rep0 ∈ lyL G i := (ly_mem G i _).2 ⟨j, by omega, q, rfl⟩
  rw [e] at this; cases this
 have hsub : (List.range G.rs.length).map (fun (j : Nat) => (j : Int)) ⊆ G.fa := by
  intro x hx
  obtain ⟨j, hj, rfl⟩ := List.mem_map.1 hx
  obtain ⟨y, hy, rfl⟩ := hall j (List.mem_range.1 hj)
  exact hy
 have hnd : ((List.range G.rs.length).map (fun (j : Nat) => (j : Int))).Nodup := by
  refine List.Pairwise.map _ ?_ List.nodup_range
  intro a b e q; exact e (Int.ofNat.inj q)
 have hle : ((List.range G.rs.length).map (fun (j : Nat) => (j : Int))).length ≤ G.fa.length := nd_sub hnd hsub
 rw [List.length_map, List.length_range] at hle
 omega
noncomputable instance dcEqL (A B : List ByteArray) : Decidable (A = B) := Classical.propDecidable _
open Go.V
set_option linter.unusedVariables false
set_option linter.unusedSimpArgs false
set_option maxRecDepth 20000
set_option maxHeartbeats 4000000
theorem ctP {n : Int} (hn : nodes n) {c : Ct} : ctOK mk bare rdM dgB n c → 0 < c.ps.length := fun h => hce ⟨hn, h⟩
theorem r75 (R : Rep) (hn : nodes R.nd) (L : List Msg) (kd sq : Int) (hL : L.length ≤ 1048576) : Pure En 75 [.agg R.T, .one (.sl false (L.map Msg.T)), .one (.int .i64 kd), .one (.int .i64 sq)] [.one (.bool (decide (∀ i, i < L.length → arS R.nd kd R.vw sq L i)))] := by
 have hl : (L.map Msg.T).length = L.length := List.length_map ..
 refine Pure.of_ev (st := []) Tryz.func75 rfl kb ?_
 refine A9 (fun (a : Nat × Nat) => [.unk, .sl false false (L.map Msg.T), .int .i64 kd, .int .i64 sq, .ptr 0 0 0, .unk, .unk, .unk, .unk, .int .i64 a.1]) (fun (a : Nat × Nat) => hp [(0, ⟨[[.int .i64 R.id, .int .i64 R.nd, .int .i64 R.vw, .bool R.ac, .sl false false (R.sl.map Slt.T), .sl false false (R.cs.map (Ct.T false)), .sl false false (R.lg.map tT), .sl false false (R.ch.map Msg.T)]], 8, 54⟩)]) (fun (a : Nat × Nat) => a.2) (fun (a : Nat × Nat) => a.1 ≤ L.length ∧ 1 ≤ a.2 ∧ ∀ j, j < a.1 → arS R.nd kd R.vw sq L j) (fun (a : Nat × Nat) => L.length - a.1) (0, 1) ?_ ?_ ?_ ?_ ?_
 ·exact ⟨Nat.zero_le _, Nat.le_refl _, F6⟩
 ·(repeat first | exact LE.nil _ | refine LE.unk _ _ ?_ | refine LE.eq _ _ _ rfl ?_)
 ·(repeat first | exact A5 | (refine A6 ?_ ?_; exact H3))
 ·exact Nat.le_refl _
 intro ⟨i, m⟩ hI ih
 obtain ⟨u0, u1, u2⟩ := hI
 dsimp only at u0 u1 u2 ⊢
 refine A3 (st := []) ?_
 refine br ?_ ?_ <;> intro h2_3
 ·(refine C0 (D1 (by first | rfl | assumption | (first | exact A7 Slt.T Slt0 (k := i) (by omega) | exact A7 (Ct.T false) Ct0 (k := i) (by omega) | exact A7 tT ⟨#[]⟩ (k := i3) (by omega) | exact A7 Msg.T Msg0 (k := i) (by omega) | exact A7 Msg.T Msg0 (k := 0) (by omega) | (have e : ((i : Int) - 1).toNat = i - 1 := (by omega); rw [e]; exact A7 Msg.T Msg0 (k := i - 1) (by omega)))) rfl ?_))
  (apply est (u := .agg [.int _ _, .int _ _, .int _ _, .int _ _, .str _, .str _, .str _]) j3; exact Q0; exact Q4; exact j2; rfl; rfl; exact kb; rfl)
  refine A2 ?_ (by exact Q0) (by exact Q4)
  refine br ?_ ?_ <;> intro h5_3
  ·refine B7 rfl ?_; intro q; obtain ⟨e1, e2, e3, ⟨_, e4⟩, e5⟩ := q i (by omega); first | omega | exact h5_21 e4 | (have := e5 (by omega); omega)
  ·refine A2 ?_ (by exact Q0) (by exact Q4)
   refine A2 ?_ (by exact Q0) (by exact Q4)
   refine br ?_ ?_ <;> intro h5_9
   ·refine B7 rfl ?_; intro q; obtain ⟨e1, e2, e3, ⟨_, e4⟩, e5⟩ := q i (by omega); first | omega | exact h5_21 e4 | (have := e5 (by omega); omega)
   ·refine A2 ?_ (by exact Q0) (by exact Q4)
    refine br ?_ ?_ <;> intro h5_15
    ·refine B7 rfl ?_; intro q; obtain ⟨e1, e2, e3, ⟨_, e4⟩, e5⟩ := q i (by omega); first | omega | exact h5_21 e4 | (have := e5 (by omega); omega)
    ·refine A2 ?_ (by exact Q0) (by exact Q4)
     (apply D2 (vs := [.int _ _, .int _ _, .int _ _, .int _ _, .str _, .str _, .str _]) j2; exact Q0; exact Q4; rfl; exact kb; rfl)
     refine B8 (r93 R.nd (L.getD i Msg0)) rfl j2 ?_ ?_ <;> intro h5_21
     ·refine br ?_ ?_ <;> intro h5_26
      ·refine C1 ?_
       (refine C0 (D1 (by first | rfl | assumption | (first | exact A7 Slt.T Slt0 (k := i) (by omega) | exact A7 (Ct.T false) Ct0 (k := i) (by omega) | exact A7 tT ⟨#[]⟩ (k := i3) (by omega) | exact A7 Msg.T Msg0 (k := i) (by omega) | exact A7 Msg.T Msg0 (k := 0) (by omega) | (have e : ((i : Int) - 1).toNat = i - 1 := (by omega); rw [e]; exact A7 Msg.T Msg0 (k := i - 1) (by omega)))) rfl ?_))
       refine A2 ?_ (by exact Q0) (by exact Q4)
       refine br ?_ ?_ <;> intro h5_36
       ·refine B7 rfl ?_; intro q; obtain ⟨e1, e2, e3, ⟨_, e4⟩, e5⟩ := q i (by omega); first | omega | exact h5_21 e4 | (have := e5 (by omega); omega)
       ·refine C1 ?_
        exact C9 (ih (i + 1, m + 1) ⟨by dsimp only; omega, by dsimp only; omega, E0 u2 ⟨by omega, by omega, by omega, ⟨hn, h5_21⟩, fun _ => by omega⟩⟩ (by dsimp only; omega)) (by (repeat first | exact LE.nil _ | refine LE.unk _ _ ?_ | refine LE.eq _ _ _ rfl ?_)) (by (repeat first | exact A5 | (refine A6 ?_ ?_; exact H3))) (Nat.le_refl _)
      ·refine C1 ?_
       exact C9 (ih (i + 1, m + 1) ⟨by dsimp only; omega, by dsimp only; omega, E0 u2 ⟨by omega, by omega, by omega, ⟨hn, h5_21⟩, fun _ => by omega⟩⟩ (by dsimp only; omega)) (by (repeat first | exact LE.nil _ | refine LE.unk _ _ ?_ | refine LE.eq _ _ _ rfl ?_)) (by (repeat first | exact A5 | (refine A6 ?_ ?_; exact H3))) (Nat.le_refl _)
     ·refine B7 rfl ?_; intro q; obtain ⟨e1, e2, e3, ⟨_, e4⟩, e5⟩ := q i (by omega); first | omega | exact h5_21 e4 | (have := e5 (by omega); omega)
 ·refine C3 rfl ?_; exact fun j hj => u2 j (by omega)
theorem r27 (R : Rep) (hb : TBs 1048576 R.T) : Pure En 27 [.agg R.T] [.one (.bool (decide R.OK))] := by
 obtain ⟨hS0, hS1, hS2, hC0, hC1, hG0, hM0⟩ := Rep.sm hb
 have hl1 : (R.sl.map Slt.T).length = R.sl.length := List.length_map ..
 have hl2 : (R.cs.map (Ct.T false)).length = R.cs.length := List.length_map ..
 have hl3 : (R.lg.map tT).length = R.lg.length := List.length_map ..
 have hl4 : (R.ch.map Msg.T).length = R.ch.length := List.length_map ..
 refine Pure.of_ev (st := []) Tryz.func27 rfl kb ?_
 refine A2 ?_ (by exact Q0) (by exact Q4)
 refine B8 (s49 R.nd) rfl j2 ?_ ?_ <;> intro h1_2
 ·refine A2 ?_ (by exact Q0) (by exact Q4)
  refine A2 ?_ (by exact Q0) (by exact Q4)
  refine E2 ⟨by exact H1, by exact H1⟩ ?_
  refine B8 (s50 _ _ _) rfl j2 ?_ ?_ <;> intro h1_10
  ·refine A2 ?_ (by exact Q0) (by exact Q4)
   refine B8 (s50 _ _ _) rfl j2 ?_ ?_ <;> intro h1_16
   ·refine A2 ?_ (by exact Q0) (by exact Q4)
    refine br ?_ ?_ <;> intro h1_23
    ·refine B7 rfl ?_; rintro ⟨⟨q1, q2, q3, q4, q5, q6, q7⟩, _⟩; first | exact h1_2 q1 | exact h1_10 q2 | exact h1_16 q3 | omega
    ·refine A2 ?_ (by exact Q0) (by exact Q4)
     refine br ?_ ?_ <;> intro h1_29
     ·refine B7 rfl ?_; rintro ⟨⟨q1, q2, q3, q4, q5, q6, q7⟩, _⟩; first | exact h1_2 q1 | exact h1_10 q2 | exact h1_16 q3 | omega
     ·refine A2 ?_ (by exact Q0) (by exact Q4)
      refine br ?_ ?_ <;> intro h1_35
      ·refine B7 rfl ?_; rintro ⟨⟨q1, q2, q3, q4, q5, q6, q7⟩, _⟩; first | exact h1_2 q1 | exact h1_10 q2 | exact h1_16 q3 | omega
      ·refine A2 ?_ (by exact Q0) (by exact Q4)
       refine A2 ?_ (by exact Q0) (by exact Q4)
       refine br ?_ ?_ <;> intro h1_43
       ·refine B7 rfl ?_; rintro ⟨⟨q1, q2, q3, q4, q5, q6, q7⟩, _⟩; first | exact h1_2 q1 | exact h1_10 q2 | exact h1_16 q3 | omega
       ·refine A9 (fun (a : Nat × Nat) => [.unk, .ptr 0 0 0, .unk, .int .i64 a.1]) (fun (a : Nat × Nat) => hp [(0, ⟨[[.int .i64 R.id, .int .i64 R.nd, .int .i64 R.vw, .bool R.ac, .sl false false (R.sl.map Slt.T), .sl false false (R.cs.map (Ct.T false)), .sl false false (R.lg.map tT), .sl false false (R.ch.map Msg.T)]], 8, 54⟩)]) (fun (a : Nat × Nat) => a.2) (fun (a : Nat × Nat) => a.1 ≤ R.sl.length ∧ 1 ≤ a.2 ∧ (∀ j, j < a.1 → slOK R.nd R.vw ((j : Int) + 1) (R.sl.getD j Slt0)) ∧ ∀ j, j < a.1 → ceOK R.nd R.vw ((j : Int) + 1) (R.cs.getD j Ct0)) (fun (a : Nat × Nat) => R.sl.length - a.1) (0, 1) ?_ ?_ ?_ ?_ ?_
        ·exact ⟨Nat.zero_le _, Nat.le_refl _, F6, F6⟩
        ·(repeat first | exact LE.nil _ | refine LE.unk _ _ ?_ | refine LE.eq _ _ _ rfl ?_)
        ·(repeat first | exact A5 | (refine A6 ?_ ?_; exact H3))
        ·exact Nat.le_refl _
        intro ⟨i, m⟩ hI ih
        obtain ⟨u0, u1, u2, u3⟩ := hI
        dsimp only at u0 u1 u2 u3 ⊢
        have hsq : (R.cs.getD i Ct0).sq = ((R.cs.getD i Ct0).ps.getD 0 Msg0).sq := rfl
        have hvw : (R.cs.getD i Ct0).vw = ((R.cs.getD i Ct0).ps.getD 0 Msg0).vw := rfl
        have hl5 : ((R.cs.getD i Ct0).ps.map Msg.T).length = (R.cs.getD i Ct0).ps.length := List.length_map ..
        refine A3 (st := []) ?_
        refine br ?_ ?_ <;> intro h4_1
        ·refine A2 ?_ (by exact Q0) (by exact Q4)
         (refine C0 (D1 (by first | rfl | assumption | exact Q8) rfl ?_))
         (apply est (u := .agg [.str _, _, _, .bool _, .bool _]) j3; exact Q0; exact Q4; exact j2; rfl; rfl; exact kb; rfl)
         refine A2 ?_ (by exact Q0) (by exact Q4)
         refine br ?_ ?_ <;> intro h7_3
         ·refine B7 rfl ?_; rintro ⟨_, q2, _⟩; obtain ⟨e1, e2, e3⟩ := q2 i (by omega); first | exact h7_23 e2 | exact h7_32 e3 | exact h7_13 (e1 h7_7).2 | (have := e1 (fun e => by rw [e] at h7_3; exact absurd h7_3 (by decide)); omega)
         ·refine A2 ?_ (by exact Q0) (by exact Q4)
          refine br ?_ ?_ <;> intro h7_7
          ·refine A2 ?_ (by exact Q0) (by exact Q4)
           refine A2 ?_ (by exact Q0) (by exact Q4)
           refine B8 (r74 R.nd h1_2 (R.sl.getD i Slt0).bd (by omega)) rfl j2 ?_ ?_ <;> intro h7_13
           ·(apply D2 (vs := [.int _ _, .int _ _, .int _ _, .bool _, _, _, _, _]) j2; exact Q0; exact Q4; rfl; exact kb; rfl)
            refine A2 ?_ (by exact Q0) (by exact Q4)
            refine E2 ⟨by exact H1, by exact H1⟩ ?_
            refine B8 (r75 R h1_2 (R.sl.getD i Slt0).pr 2 ((i : Int) + 1) (hS1 i (by omega))) rfl j2 ?_ ?_ <;> intro h7_23
            ·(apply D2 (vs := [.int _ _, .int _ _, .int _ _, .bool _, _, _, _, _]) j2; exact Q0; exact Q4; rfl; exact kb; rfl)
             refine A2 ?_ (by exact Q0) (by exact Q4)
             refine E2 ⟨by exact H1, by exact H1⟩ ?_
             refine B8 (r75 R h1_2 (R.sl.getD i Slt0).cm 3 ((i : Int) + 1) (hS2 i (by omega))) rfl j2 ?_ ?_ <;> intro h7_32
             ·refine A2 ?_ (by exact Q0) (by exact Q4)
              (refine C0 (D1 (by first | rfl | assumption | exact Q8) rfl ?_))
              (apply est (u := .agg [.str _, _]) j3; exact Q0; exact Q4; exact j2; rfl; rfl; exact kb; rfl)
              refine A2 ?_ (by exact Q0) (by exact Q4)
              refine br ?_ ?_ <;> intro h10_3
              ·refine A2 ?_ (by exact Q0) (by exact Q4)
               refine br ?_ ?_ <;> intro h11_2
               ·refine B7 rfl ?_; rintro ⟨_, _, q3, _⟩; have := q3 i (by omega) (fun q => h11_2 q.1); have := hce ⟨h1_2, this.1⟩; omega
               ·refine E2 ⟨by exact H1, by exact H1⟩ ?_
                exact C9 (ih (i + 1, m + 1 + 1) ⟨by dsimp only; omega, by dsimp only; omega, E0 u2 ⟨fun q => by first | exact absurd q h7_7 | exact ⟨by omega, h7_13⟩, h7_23, h7_32⟩, E0 u3 (fun q => by first | exact ⟨h13_3, by omega, by omega⟩ | exact absurd ⟨Classical.not_not.1 h11_2, by omega⟩ q)⟩ (by dsimp only; omega)) (by (repeat first | exact LE.nil _ | refine LE.unk _ _ ?_ | refine LE.eq _ _ _ rfl ?_)) (by (repeat first | exact A5 | (refine A6 ?_ ?_; exact H3))) (Nat.le_refl _)
              ·have hq0 := ctP h1_2 (c := R.cs.getD i Ct0)
               refine A2 ?_ (by exact Q0) (by exact Q4)
               (apply D2 (vs := [.str _, _]) j2; exact Q0; exact Q4; rfl; exact kb; rfl)
               refine B8 (r76 R.nd h1_2 (R.cs.getD i Ct0) false) rfl j2 ?_ ?_ <;> intro h13_3
               ·refine A2 ?_ (by exact Q0) (by exact Q4)
                (refine C0 (D1 (by first | rfl | assumption | exact Q8) rfl ?_))
                refine E2 ⟨by exact H1, by exact H1⟩ ?_
                refine br ?_ ?_ <;> intro h13_13
                ·refine B7 rfl ?_; rintro ⟨_, _, q3, _⟩; obtain ⟨e1, e2, e3⟩ := q3 i (by omega) (fun q => absurd q.2 (by omega)); first | exact h13_3 e1 | omega
                ·refine A2 ?_ (by exact Q0) (by exact Q4)
                 (refine C0 (D1 (by first | rfl | assumption | exact Q8) rfl ?_))
                 refine A2 ?_ (by exact Q0) (by exact Q4)
                 refine br ?_ ?_ <;> intro h13_23
                 ·refine B7 rfl ?_; rintro ⟨_, _, q3, _⟩; obtain ⟨e1, e2, e3⟩ := q3 i (by omega) (fun q => absurd q.2 (by omega)); first | exact h13_3 e1 | omega
                 ·refine E2 ⟨by exact H1, by exact H1⟩ ?_
                  exact C9 (ih (i + 1, m + 1 + 1) ⟨by dsimp only; omega, by dsimp only; omega, E0 u2 ⟨fun q => by first | exact absurd q h7_7 | exact ⟨by omega, h7_13⟩, h7_23, h7_32⟩, E0 u3 (fun q => by first | exact ⟨h13_3, by omega, by omega⟩ | exact absurd ⟨Classical.not_not.1 h11_2, by omega⟩ q)⟩ (by dsimp only; omega)) (by (repeat first | exact LE.nil _ | refine LE.unk _ _ ?_ | refine LE.eq _ _ _ rfl ?_)) (by (repeat first | exact A5 | (refine A6 ?_ ?_; exact H3))) (Nat.le_refl _)
               ·refine B7 rfl ?_; rintro ⟨_, _, q3, _⟩; obtain ⟨e1, e2, e3⟩ := q3 i (by omega) (fun q => absurd q.2 (by omega)); first | exact h13_3 e1 | omega
             ·refine B7 rfl ?_; rintro ⟨_, q2, _⟩; obtain ⟨e1, e2, e3⟩ := q2 i (by omega); first | exact h7_23 e2 | exact h7_32 e3 | exact h7_13 (e1 h7_7).2 | (have := e1 (fun e => by rw [e] at h7_3; exact absurd h7_3 (by decide)); omega)
            ·refine B7 rfl ?_; rintro ⟨_, q2, _⟩; obtain ⟨e1, e2, e3⟩ := q2 i (by omega); first | exact h7_23 e2 | exact h7_32 e3 | exact h7_13 (e1 h7_7).2 | (have := e1 (fun e => by rw [e] at h7_3; exact absurd h7_3 (by decide)); omega)
           ·refine B7 rfl ?_; rintro ⟨_, q2, _⟩; obtain ⟨e1, e2, e3⟩ := q2 i (by omega); first | exact h7_23 e2 | exact h7_32 e3 | exact h7_13 (e1 h7_7).2 | (have := e1 (fun e => by rw [e] at h7_3; exact absurd h7_3 (by decide)); omega)
          ·(apply D2 (vs := [.int _ _, .int _ _, .int _ _, .bool _, _, _, _, _]) j2; exact Q0; exact Q4; rfl; exact kb; rfl)
           refine A2 ?_ (by exact Q0) (by exact Q4)
           refine E2 ⟨by exact H1, by exact H1⟩ ?_
           refine B8 (r75 R h1_2 (R.sl.getD i Slt0).pr 2 ((i : Int) + 1) (hS1 i (by omega))) rfl j2 ?_ ?_ <;> intro h7_23
           ·(apply D2 (vs := [.int _ _, .int _ _, .int _ _, .bool _, _, _, _, _]) j2; exact Q0; exact Q4; rfl; exact kb; rfl)
            refine A2 ?_ (by exact Q0) (by exact Q4)
            refine E2 ⟨by exact H1, by exact H1⟩ ?_
            refine B8 (r75 R h1_2 (R.sl.getD i Slt0).cm 3 ((i : Int) + 1) (hS2 i (by omega))) rfl j2 ?_ ?_ <;> intro h7_32
            ·refine A2 ?_ (by exact Q0) (by exact Q4)
             (refine C0 (D1 (by first | rfl | assumption | exact Q8) rfl ?_))
             (apply est (u := .agg [.str _, _]) j3; exact Q0; exact Q4; exact j2; rfl; rfl; exact kb; rfl)
             refine A2 ?_ (by exact Q0) (by exact Q4)
             refine br ?_ ?_ <;> intro h10_3
             ·refine A2 ?_ (by exact Q0) (by exact Q4)
              refine br ?_ ?_ <;> intro h11_2
              ·refine B7 rfl ?_; rintro ⟨_, _, q3, _⟩; have := q3 i (by omega) (fun q => h11_2 q.1); have := hce ⟨h1_2, this.1⟩; omega
              ·refine E2 ⟨by exact H1, by exact H1⟩ ?_
               exact C9 (ih (i + 1, m + 1 + 1) ⟨by dsimp only; omega, by dsimp only; omega, E0 u2 ⟨fun q => by first | exact absurd q h7_7 | exact ⟨by omega, h7_13⟩, h7_23, h7_32⟩, E0 u3 (fun q => by first | exact ⟨h13_3, by omega, by omega⟩ | exact absurd ⟨Classical.not_not.1 h11_2, by omega⟩ q)⟩ (by dsimp only; omega)) (by (repeat first | exact LE.nil _ | refine LE.unk _ _ ?_ | refine LE.eq _ _ _ rfl ?_)) (by (repeat first | exact A5 | (refine A6 ?_ ?_; exact H3))) (Nat.le_refl _)
             ·have hq0 := ctP h1_2 (c := R.cs.getD i Ct0)
              refine A2 ?_ (by exact Q0) (by exact Q4)
              (apply D2 (vs := [.str _, _]) j2; exact Q0; exact Q4; rfl; exact kb; rfl)
              refine B8 (r76 R.nd h1_2 (R.cs.getD i Ct0) false) rfl j2 ?_ ?_ <;> intro h13_3
              ·refine A2 ?_ (by exact Q0) (by exact Q4)
               (refine C0 (D1 (by first | rfl | assumption | exact Q8) rfl ?_))
               refine E2 ⟨by exact H1, by exact H1⟩ ?_
               refine br ?_ ?_ <;> intro h13_13
               ·refine B7 rfl ?_; rintro ⟨_, _, q3, _⟩; obtain ⟨e1, e2, e3⟩ := q3 i (by omega) (fun q => absurd q.2 (by omega)); first | exact h13_3 e1 | omega
               ·refine A2 ?_ (by exact Q0) (by exact Q4)
                (refine C0 (D1 (by first | rfl | assumption | exact Q8) rfl ?_))
                refine A2 ?_ (by exact Q0) (by exact Q4)
                refine br ?_ ?_ <;> intro h13_23
                ·refine B7 rfl ?_; rintro ⟨_, _, q3, _⟩; obtain ⟨e1, e2, e3⟩ := q3 i (by omega) (fun q => absurd q.2 (by omega)); first | exact h13_3 e1 | omega
                ·refine E2 ⟨by exact H1, by exact H1⟩ ?_
                 exact C9 (ih (i + 1, m + 1 + 1) ⟨by dsimp only; omega, by dsimp only; omega, E0 u2 ⟨fun q => by first | exact absurd q h7_7 | exact ⟨by omega, h7_13⟩, h7_23, h7_32⟩, E0 u3 (fun q => by first | exact ⟨h13_3, by omega, by omega⟩ | exact absurd ⟨Classical.not_not.1 h11_2, by omega⟩ q)⟩ (by dsimp only; omega)) (by (repeat first | exact LE.nil _ | refine LE.unk _ _ ?_ | refine LE.eq _ _ _ rfl ?_)) (by (repeat first | exact A5 | (refine A6 ?_ ?_; exact H3))) (Nat.le_refl _)
              ·refine B7 rfl ?_; rintro ⟨_, _, q3, _⟩; obtain ⟨e1, e2, e3⟩ := q3 i (by omega) (fun q => absurd q.2 (by omega)); first | exact h13_3 e1 | omega
            ·refine B7 rfl ?_; rintro ⟨_, q2, _⟩; obtain ⟨e1, e2, e3⟩ := q2 i (by omega); first | exact h7_23 e2 | exact h7_32 e3 | exact h7_13 (e1 h7_7).2 | (have := e1 (fun e => by rw [e] at h7_3; exact absurd h7_3 (by decide)); omega)
           ·refine B7 rfl ?_; rintro ⟨_, q2, _⟩; obtain ⟨e1, e2, e3⟩ := q2 i (by omega); first | exact h7_23 e2 | exact h7_32 e3 | exact h7_13 (e1 h7_7).2 | (have := e1 (fun e => by rw [e] at h7_3; exact absurd h7_3 (by decide)); omega)
        ·refine A9 (fun (a : Nat) => [.unk, .ptr 0 0 0, .unk, .unk, .unk, .unk, .int .i64 a]) (fun (a : Nat) => hp [(0, ⟨[[.int .i64 R.id, .int .i64 R.nd, .int .i64 R.vw, .bool R.ac, .sl false false (R.sl.map Slt.T), .sl false false (R.cs.map (Ct.T false)), .sl false false (R.lg.map tT), .sl false false (R.ch.map Msg.T)]], 8, 54⟩)]) (fun (a : Nat) => m) (fun (a : Nat) => a ≤ R.lg.length ∧ ∀ j, j < a → lgOK R.nd (R.lg.getD j ⟨#[]⟩)) (fun (a : Nat) => R.lg.length - a) 0 ?_ ?_ ?_ ?_ ?_
         ·exact ⟨Nat.zero_le _, F6⟩
         ·(repeat first | exact LE.nil _ | refine LE.unk _ _ ?_ | refine LE.eq _ _ _ rfl ?_)
         ·(repeat first | exact A5 | (refine A6 ?_ ?_; exact H3))
         ·exact Nat.le_refl _
         intro i3 hI ih
         obtain ⟨w0, w2⟩ := hI
         have hzz : (R.lg.getD ((i3 : Int)).toNat (⟨#[]⟩ : ByteArray)).size = (R.lg.getD i3 (⟨#[]⟩ : ByteArray)).size := rfl
         refine A3 (st := []) ?_
         refine A2 ?_ (by exact Q0) (by exact Q4)
         refine br ?_ ?_ <;> intro h16_4
         ·refine A2 ?_ (by exact Q0) (by exact Q4)
          (refine C0 (D1 (by first | rfl | assumption | exact Q8) rfl ?_))
          refine br ?_ ?_ <;> intro h18_6
          ·refine B7 rfl ?_; rintro ⟨_, _, _, q4, _⟩; obtain ⟨e1, e2⟩ := q4 i3 (by omega); first | omega | exact h18_15 e2
          ·refine A2 ?_ (by exact Q0) (by exact Q4)
           refine A2 ?_ (by exact Q0) (by exact Q4)
           (refine C0 (D1 (by first | rfl | assumption | exact Q8) rfl ?_))
           refine B8 (r74 R.nd h1_2 (R.lg.getD i3 ⟨#[]⟩) (by omega)) rfl j2 ?_ ?_ <;> intro h18_15
           ·refine E2 ⟨by exact H1, by exact H1⟩ ?_
            exact C9 (ih (i3 + 1) ⟨by omega, E0 w2 ⟨by omega, h18_15⟩⟩ (by omega)) (by (repeat first | exact LE.nil _ | refine LE.unk _ _ ?_ | refine LE.eq _ _ _ rfl ?_)) (by (repeat first | exact A5 | (refine A6 ?_ ?_; exact H3))) (Nat.le_refl _)
           ·refine B7 rfl ?_; rintro ⟨_, _, _, q4, _⟩; obtain ⟨e1, e2⟩ := q4 i3 (by omega); first | omega | exact h18_15 e2
         ·refine A9 (fun (a : Nat × Nat) => [.unk, .ptr 0 0 0, .unk, .unk, .unk, .unk, .unk, .int .i64 a.1]) (fun (a : Nat × Nat) => hp [(0, ⟨[[.int .i64 R.id, .int .i64 R.nd, .int .i64 R.vw, .bool R.ac, .sl false false (R.sl.map Slt.T), .sl false false (R.cs.map (Ct.T false)), .sl false false (R.lg.map tT), .sl false false (R.ch.map Msg.T)]], 8, 54⟩)]) (fun (a : Nat × Nat) => a.2) (fun (a : Nat × Nat) => a.1 ≤ R.ch.length ∧ 1 ≤ a.2 ∧ ∀ j, j < a.1 → chOK R.nd R.vw R.ch j) (fun (a : Nat × Nat) => R.ch.length - a.1) (0, m) ?_ ?_ ?_ ?_ ?_
          ·exact ⟨Nat.zero_le _, u1, F6⟩
          ·(repeat first | exact LE.nil _ | refine LE.unk _ _ ?_ | refine LE.eq _ _ _ rfl ?_)
          ·(repeat first | exact A5 | (refine A6 ?_ ?_; exact H3))
          ·exact Nat.le_refl _
          intro ⟨i4, m4⟩ hI ih
          obtain ⟨x0, x1, x2⟩ := hI
          dsimp only at x0 x1 x2 ⊢
          refine A3 (st := []) ?_
          refine A2 ?_ (by exact Q0) (by exact Q4)
          refine br ?_ ?_ <;> intro h21_4
          ·refine A2 ?_ (by exact Q0) (by exact Q4)
           (refine C0 (D1 (by first | rfl | assumption | exact Q8) rfl ?_))
           (apply est (u := .agg [.int _ _, .int _ _, .int _ _, .int _ _, .str _, .str _, .str _]) j3; exact Q0; exact Q4; exact j2; rfl; rfl; exact kb; rfl)
           refine A2 ?_ (by exact Q0) (by exact Q4)
           (apply D2 (vs := [.int _ _, .int _ _, .int _ _, .int _ _, .str _, .str _, .str _]) j2; exact Q0; exact Q4; rfl; exact kb; rfl)
           refine C5 (r77 R.nd h1_2 (R.ch.getD i4 Msg0)) rfl rfl rfl ?_
           refine brB ?_ ?_ <;> intro h24_6
           ·refine A2 ?_ (by exact Q0) (by exact Q4)
            refine A2 ?_ (by exact Q0) (by exact Q4)
            refine br ?_ ?_ <;> intro h25_7
            ·refine B7 rfl ?_; rintro ⟨_, _, _, _, q5⟩; obtain ⟨e1, e2, e3, e4⟩ := q5 i4 (by omega); first | exact of_decide_eq_false h24_6 e1 | omega | (have := e4 (by omega); omega)
            ·refine A2 ?_ (by exact Q0) (by exact Q4)
             refine A2 ?_ (by exact Q0) (by exact Q4)
             (refine C0 (D1 (by first | rfl | assumption | exact Q8) rfl ?_))
             refine br ?_ ?_ <;> intro h25_17
             ·refine B7 rfl ?_; rintro ⟨_, _, _, _, q5⟩; obtain ⟨e1, e2, e3, e4⟩ := q5 i4 (by omega); first | exact of_decide_eq_false h24_6 e1 | omega | (have := e4 (by omega); omega)
             ·refine br ?_ ?_ <;> intro h25_21
              ·refine A2 ?_ (by exact Q0) (by exact Q4)
               refine E2 ⟨by exact H1, by exact H1⟩ ?_
               (refine C0 (D1 (by first | rfl | assumption | exact Q8) rfl ?_))
               refine A2 ?_ (by exact Q0) (by exact Q4)
               refine br ?_ ?_ <;> intro h25_32
               ·refine B7 rfl ?_; rintro ⟨_, _, _, _, q5⟩; obtain ⟨e1, e2, e3, e4⟩ := q5 i4 (by omega); first | exact of_decide_eq_false h24_6 e1 | omega | (have := e4 (by omega); omega)
               ·refine E2 ⟨by exact H1, by exact H1⟩ ?_
                exact C9 (ih (i4 + 1, m4 + 1) ⟨by dsimp only; omega, by dsimp only; omega, E0 x2 ⟨of_decide_eq_true h24_6, by omega, by omega, fun _ => by omega⟩⟩ (by dsimp only; omega)) (by (repeat first | exact LE.nil _ | refine LE.unk _ _ ?_ | refine LE.eq _ _ _ rfl ?_)) (by (repeat first | exact A5 | (refine A6 ?_ ?_; exact H3))) (Nat.le_refl _)
              ·refine E2 ⟨by exact H1, by exact H1⟩ ?_
               exact C9 (ih (i4 + 1, m4 + 1) ⟨by dsimp only; omega, by dsimp only; omega, E0 x2 ⟨of_decide_eq_true h24_6, by omega, by omega, fun _ => by omega⟩⟩ (by dsimp only; omega)) (by (repeat first | exact LE.nil _ | refine LE.unk _ _ ?_ | refine LE.eq _ _ _ rfl ?_)) (by (repeat first | exact A5 | (refine A6 ?_ ?_; exact H3))) (Nat.le_refl _)
           ·refine B7 rfl ?_; rintro ⟨_, _, _, _, q5⟩; obtain ⟨e1, e2, e3, e4⟩ := q5 i4 (by omega); first | exact of_decide_eq_false h24_6 e1 | omega | (have := e4 (by omega); omega)
          ·refine C3 rfl ?_; exact ⟨⟨h1_2, h1_10, h1_16, by omega, by omega, by omega, by omega⟩, fun j hj => u2 j (by omega), fun j hj => u3 j (by omega), fun j hj => w2 j (by omega), fun j hj => x2 j (by omega)⟩
   ·refine B7 rfl ?_; rintro ⟨⟨q1, q2, q3, q4, q5, q6, q7⟩, _⟩; first | exact h1_2 q1 | exact h1_10 q2 | exact h1_16 q3 | omega
  ·refine B7 rfl ?_; rintro ⟨⟨q1, q2, q3, q4, q5, q6, q7⟩, _⟩; first | exact h1_2 q1 | exact h1_10 q2 | exact h1_16 q3 | omega
 ·refine B7 rfl ?_; rintro ⟨⟨q1, q2, q3, q4, q5, q6, q7⟩, _⟩; first | exact h1_2 q1 | exact h1_10 q2 | exact h1_16 q3 | omega
open Go.V
set_option linter.unusedVariables false
set_option linter.unusedSimpArgs false
set_option maxRecDepth 20000
set_option maxHeartbeats 4000000
theorem r92 (n : Int) (hn : nodes n) (F : List Int) (b : Bool) (hF : F.length ≤ 1048576) : Pure En 92 [.one (.int .i64 n), .one (.sl b (F.map iT))] [.one (.bool (decide (fyOK n F)))] := by
 have hl : (F.map iT).length = F.length := List.length_map ..
 rcases hn with rfl | rfl | rfl
 ·refine Pure.of_ev (st := []) Tryz.func92 rfl kb ?_
  refine C1 ?_
  refine C0 ?_
  refine br ?_ ?_ <;> intro h1_5
  ·have hk : IntKind.i64.wrap (Int.tdiv (1 - 1) 3) = 0 := rfl
   refine B7 rfl ?_; rintro ⟨q1, _⟩; omega
  ·have hk : IntKind.i64.wrap (Int.tdiv (1 - 1) 3) = 0 := rfl
   have hk2 : (F.length : Int) ≤ 0 := by omega
   refine D4 (fun (i : Nat) => [.int .i64 1, .sl false b (F.map iT), .unk, .unk, .unk, .int .i64 i]) (fun (i : Nat) => i ≤ F.length ∧ ∀ j, j < i → (0 ≤ F.getD j 0 ∧ F.getD j 0 ≤ 1 - 1) ∧ (0 < j → F.getD (j - 1) 0 < F.getD j 0)) (fun (i : Nat) => F.length - i) 0 ?_ ?_ ?_
   ·exact ⟨Nat.zero_le _, F6⟩
   ·(repeat first | exact LE.nil _ | refine LE.unk _ _ ?_ | refine LE.eq _ _ _ rfl ?_)
   intro i hI ih
   obtain ⟨u0, u2⟩ := hI
   refine A3 (st := []) ?_
   refine br ?_ ?_ <;> intro h4_3
   ·(refine C0 (D1 (by first | rfl | assumption | exact Q19) rfl ?_))
    refine C1 ?_
    refine B8 (s50 _ _ _) rfl j2 ?_ ?_ <;> intro h6_6
    ·refine br ?_ ?_ <;> intro h6_10
     ·refine C1 ?_
      (refine C0 (D1 (by first | rfl | assumption | exact Q19) rfl ?_))
      (refine C0 (D1 (by first | rfl | assumption | exact Q19) rfl ?_))
      refine br ?_ ?_ <;> intro h6_21
      ·refine B7 rfl ?_; rintro ⟨_, q⟩; obtain ⟨e1, e2⟩ := q i (by omega); first | exact h6_6 e1 | (have := e2 (by omega); omega)
      ·refine C1 ?_
       exact T5 (ih (i + 1) ⟨by omega, E0 u2 ⟨h6_6, fun _ => by omega⟩⟩ (by omega)) (by (repeat first | exact LE.nil _ | refine LE.unk _ _ ?_ | refine LE.eq _ _ _ rfl ?_))
     ·refine C1 ?_
      exact T5 (ih (i + 1) ⟨by omega, E0 u2 ⟨h6_6, fun _ => by omega⟩⟩ (by omega)) (by (repeat first | exact LE.nil _ | refine LE.unk _ _ ?_ | refine LE.eq _ _ _ rfl ?_))
    ·refine B7 rfl ?_; rintro ⟨_, q⟩; obtain ⟨e1, e2⟩ := q i (by omega); first | exact h6_6 e1 | (have := e2 (by omega); omega)
   ·refine C3 rfl ?_; exact ⟨by omega, fun j hj => u2 j (by omega)⟩
 ·refine Pure.of_ev (st := []) Tryz.func92 rfl kb ?_
  refine C1 ?_
  refine C0 ?_
  refine br ?_ ?_ <;> intro h1_5
  ·have hk : IntKind.i64.wrap (Int.tdiv (4 - 1) 3) = 1 := rfl
   refine B7 rfl ?_; rintro ⟨q1, _⟩; omega
  ·have hk : IntKind.i64.wrap (Int.tdiv (4 - 1) 3) = 1 := rfl
   have hk2 : (F.length : Int) ≤ 1 := by omega
   refine D4 (fun (i : Nat) => [.int .i64 4, .sl false b (F.map iT), .unk, .unk, .unk, .int .i64 i]) (fun (i : Nat) => i ≤ F.length ∧ ∀ j, j < i → (0 ≤ F.getD j 0 ∧ F.getD j 0 ≤ 4 - 1) ∧ (0 < j → F.getD (j - 1) 0 < F.getD j 0)) (fun (i : Nat) => F.length - i) 0 ?_ ?_ ?_
   ·exact ⟨Nat.zero_le _, F6⟩
   ·(repeat first | exact LE.nil _ | refine LE.unk _ _ ?_ | refine LE.eq _ _ _ rfl ?_)
   intro i hI ih
   obtain ⟨u0, u2⟩ := hI
   refine A3 (st := []) ?_
   refine br ?_ ?_ <;> intro h4_3
   ·(refine C0 (D1 (by first | rfl | assumption | exact Q19) rfl ?_))
    refine C1 ?_
    refine B8 (s50 _ _ _) rfl j2 ?_ ?_ <;> intro h6_6
    ·refine br ?_ ?_ <;> intro h6_10
     ·refine C1 ?_
      (refine C0 (D1 (by first | rfl | assumption | exact Q19) rfl ?_))
      (refine C0 (D1 (by first | rfl | assumption | exact Q19) rfl ?_))
      refine br ?_ ?_ <;> intro h6_21
      ·refine B7 rfl ?_; rintro ⟨_, q⟩; obtain ⟨e1, e2⟩ := q i (by omega); first | exact h6_6 e1 | (have := e2 (by omega); omega)
      ·refine C1 ?_
       exact T5 (ih (i + 1) ⟨by omega, E0 u2 ⟨h6_6, fun _ => by omega⟩⟩ (by omega)) (by (repeat first | exact LE.nil _ | refine LE.unk _ _ ?_ | refine LE.eq _ _ _ rfl ?_))
     ·refine C1 ?_
      exact T5 (ih (i + 1) ⟨by omega, E0 u2 ⟨h6_6, fun _ => by omega⟩⟩ (by omega)) (by (repeat first | exact LE.nil _ | refine LE.unk _ _ ?_ | refine LE.eq _ _ _ rfl ?_))
    ·refine B7 rfl ?_; rintro ⟨_, q⟩; obtain ⟨e1, e2⟩ := q i (by omega); first | exact h6_6 e1 | (have := e2 (by omega); omega)
   ·refine C3 rfl ?_; exact ⟨by omega, fun j hj => u2 j (by omega)⟩
 ·refine Pure.of_ev (st := []) Tryz.func92 rfl kb ?_
  refine C1 ?_
  refine C0 ?_
  refine br ?_ ?_ <;> intro h1_5
  ·have hk : IntKind.i64.wrap (Int.tdiv (7 - 1) 3) = 2 := rfl
   refine B7 rfl ?_; rintro ⟨q1, _⟩; omega
  ·have hk : IntKind.i64.wrap (Int.tdiv (7 - 1) 3) = 2 := rfl
   have hk2 : (F.length : Int) ≤ 2 := by omega
   refine D4 (fun (i : Nat) => [.int .i64 7, .sl false b (F.map iT), .unk, .unk, .unk, .int .i64 i]) (fun (i : Nat) => i ≤ F.length ∧ ∀ j, j < i → (0 ≤ F.getD j 0 ∧ F.getD j 0 ≤ 7 - 1) ∧ (0 < j → F.getD (j - 1) 0 < F.getD j 0)) (fun (i : Nat) => F.length - i) 0 ?_ ?_ ?_
   ·exact ⟨Nat.zero_le _, F6⟩
   ·(repeat first | exact LE.nil _ | refine LE.unk _ _ ?_ | refine LE.eq _ _ _ rfl ?_)
   intro i hI ih
   obtain ⟨u0, u2⟩ := hI
   refine A3 (st := []) ?_
   refine br ?_ ?_ <;> intro h4_3
   ·(refine C0 (D1 (by first | rfl | assumption | exact Q19) rfl ?_))
    refine C1 ?_
    refine B8 (s50 _ _ _) rfl j2 ?_ ?_ <;> intro h6_6
    ·refine br ?_ ?_ <;> intro h6_10
     ·refine C1 ?_
      (refine C0 (D1 (by first | rfl | assumption | exact Q19) rfl ?_))
      (refine C0 (D1 (by first | rfl | assumption | exact Q19) rfl ?_))
      refine br ?_ ?_ <;> intro h6_21
      ·refine B7 rfl ?_; rintro ⟨_, q⟩; obtain ⟨e1, e2⟩ := q i (by omega); first | exact h6_6 e1 | (have := e2 (by omega); omega)
      ·refine C1 ?_
       exact T5 (ih (i + 1) ⟨by omega, E0 u2 ⟨h6_6, fun _ => by omega⟩⟩ (by omega)) (by (repeat first | exact LE.nil _ | refine LE.unk _ _ ?_ | refine LE.eq _ _ _ rfl ?_))
     ·refine C1 ?_
      exact T5 (ih (i + 1) ⟨by omega, E0 u2 ⟨h6_6, fun _ => by omega⟩⟩ (by omega)) (by (repeat first | exact LE.nil _ | refine LE.unk _ _ ?_ | refine LE.eq _ _ _ rfl ?_))
    ·refine B7 rfl ?_; rintro ⟨_, q⟩; obtain ⟨e1, e2⟩ := q i (by omega); first | exact h6_6 e1 | (have := e2 (by omega); omega)
   ·refine C3 rfl ?_; exact ⟨by omega, fun j hj => u2 j (by omega)⟩
theorem r32 (G : Grp) (hb : TBs 1048576 G.T) : Pure En 32 [.agg G.T] [.one (.bool (decide G.OK))] := by
 obtain ⟨hF, hR0, hR, hW, hS⟩ := Grp.sm hb
 have hl1 : (G.fa.map iT).length = G.fa.length := List.length_map ..
 have hl2 : (G.rs.map Rep.T).length = G.rs.length := List.length_map ..
 have hl3 : (G.wi.map Pc.T).length = G.wi.length := List.length_map ..
 have hl4 : (G.se.map Msg.T).length = G.se.length := List.length_map ..
 refine Pure.of_ev (st := []) Tryz.func32 rfl kb ?_
 refine A2 ?_ (by exact Q0) (by exact Q4)
 refine B8 (s49 G.nd) rfl j2 ?_ ?_ <;> intro h1_2
 ·refine A2 ?_ (by exact Q0) (by exact Q4)
  refine A2 ?_ (by exact Q0) (by exact Q4)
  refine B8 (r92 G.nd h1_2 G.fa false hF) rfl j2 ?_ ?_ <;> intro h1_9
  ·refine A2 ?_ (by exact Q0) (by exact Q4)
   refine A2 ?_ (by exact Q0) (by exact Q4)
   refine br ?_ ?_ <;> intro h1_18
   ·refine B7 rfl ?_; rintro ⟨⟨q1, q2, q3, q4, q5⟩, _⟩; first | exact h1_2 q1 | exact h1_9 q2 | omega
   ·refine A2 ?_ (by exact Q0) (by exact Q4)
    refine br ?_ ?_ <;> intro h1_24
    ·refine B7 rfl ?_; rintro ⟨⟨q1, q2, q3, q4, q5⟩, _⟩; first | exact h1_2 q1 | exact h1_9 q2 | omega
    ·refine A2 ?_ (by exact Q0) (by exact Q4)
     refine br ?_ ?_ <;> intro h1_30
     ·refine B7 rfl ?_; rintro ⟨⟨q1, q2, q3, q4, q5⟩, _⟩; first | exact h1_2 q1 | exact h1_9 q2 | omega
     ·refine A9 (fun (i : Nat) => [.unk, .ptr 0 0 0, .unk, .int .i64 i]) (fun (i : Nat) => hp [(0, ⟨[[.int .i64 G.nd, .sl false false (G.fa.map iT), .sl false false (G.rs.map Rep.T), .sl false false (G.wi.map Pc.T), .sl false false (G.se.map Msg.T)]], 5, 67⟩)]) (fun (i : Nat) => 1) (fun (i : Nat) => i ≤ G.rs.length ∧ ∀ j, j < i → rsOK G.nd G.rs j) (fun (i : Nat) => G.rs.length - i) 0 ?_ ?_ ?_ ?_ ?_
      ·exact ⟨Nat.zero_le _, F6⟩
      ·(repeat first | exact LE.nil _ | refine LE.unk _ _ ?_ | refine LE.eq _ _ _ rfl ?_)
      ·(repeat first | exact A5 | (refine A6 ?_ ?_; exact H3))
      ·exact Nat.le_refl _
      intro i hI ih
      obtain ⟨u0, u2⟩ := hI
      refine A3 (st := []) ?_
      refine A2 ?_ (by exact Q0) (by exact Q4)
      refine br ?_ ?_ <;> intro h4_3
      ·refine A2 ?_ (by exact Q0) (by exact Q4)
       (refine C0 (D1 (by first | rfl | assumption | exact Q30) rfl ?_))
       refine br ?_ ?_ <;> intro h6_7
       ·refine B7 rfl ?_; rintro ⟨_, q2, _⟩; obtain ⟨e1, e2, e3⟩ := q2 i (by omega); first | omega | exact h6_25 e3
       ·refine A2 ?_ (by exact Q0) (by exact Q4)
        (refine C0 (D1 (by first | rfl | assumption | exact Q30) rfl ?_))
        refine A2 ?_ (by exact Q0) (by exact Q4)
        refine br ?_ ?_ <;> intro h6_17
        ·refine B7 rfl ?_; rintro ⟨_, q2, _⟩; obtain ⟨e1, e2, e3⟩ := q2 i (by omega); first | omega | exact h6_25 e3
        ·refine A2 ?_ (by exact Q0) (by exact Q4)
         (refine C0 (D1 (by first | rfl | assumption | exact Q30) rfl ?_))
         refine B8 (r27 (G.rs.getD i Rep0) (hR i (by omega))) rfl j2 ?_ ?_ <;> intro h6_25
         ·refine E2 ⟨by exact H1, by exact H1⟩ ?_
          exact C9 (ih (i + 1) ⟨by omega, E0 u2 ⟨by omega, by omega, h6_25⟩⟩ (by omega)) (by (repeat first | exact LE.nil _ | refine LE.unk _ _ ?_ | refine LE.eq _ _ _ rfl ?_)) (by (repeat first | exact A5 | (refine A6 ?_ ?_; exact H3))) (Nat.le_refl _)
         ·refine B7 rfl ?_; rintro ⟨_, q2, _⟩; obtain ⟨e1, e2, e3⟩ := q2 i (by omega); first | omega | exact h6_25 e3
      ·refine A9 (fun (i2 : Nat) => [.unk, .ptr 0 0 0, .unk, .unk, .int .i64 i2]) (fun (i2 : Nat) => hp [(0, ⟨[[.int .i64 G.nd, .sl false false (G.fa.map iT), .sl false false (G.rs.map Rep.T), .sl false false (G.wi.map Pc.T), .sl false false (G.se.map Msg.T)]], 5, 67⟩)]) (fun (i2 : Nat) => 1) (fun (i2 : Nat) => i2 ≤ G.wi.length ∧ ∀ j, j < i2 → pcOK G.nd (G.wi.getD j Pc0)) (fun (i2 : Nat) => G.wi.length - i2) 0 ?_ ?_ ?_ ?_ ?_
       ·exact ⟨Nat.zero_le _, F6⟩
       ·(repeat first | exact LE.nil _ | refine LE.unk _ _ ?_ | refine LE.eq _ _ _ rfl ?_)
       ·(repeat first | exact A5 | (refine A6 ?_ ?_; exact H3))
       ·exact Nat.le_refl _
       intro i2 hI ih
       obtain ⟨v0, v2⟩ := hI
       refine A3 (st := []) ?_
       refine A2 ?_ (by exact Q0) (by exact Q4)
       refine br ?_ ?_ <;> intro h9_4
       ·refine A2 ?_ (by exact Q0) (by exact Q4)
        (refine C0 (D1 (by first | rfl | assumption | exact Q30) rfl ?_))
        refine A2 ?_ (by exact Q0) (by exact Q4)
        refine E2 ⟨by exact H1, by exact H1⟩ ?_
        refine B8 (s50 _ _ _) rfl j2 ?_ ?_ <;> intro h11_9
        ·refine A2 ?_ (by exact Q0) (by exact Q4)
         refine A2 ?_ (by exact Q0) (by exact Q4)
         (refine C0 (D1 (by first | rfl | assumption | exact Q30) rfl ?_))
         refine B8 (r93 G.nd (G.wi.getD i2 Pc0).ms) rfl j2 ?_ ?_ <;> intro h11_20
         ·refine E2 ⟨by exact H1, by exact H1⟩ ?_
          exact C9 (ih (i2 + 1) ⟨by omega, E0 v2 ⟨h11_9, h11_20⟩⟩ (by omega)) (by (repeat first | exact LE.nil _ | refine LE.unk _ _ ?_ | refine LE.eq _ _ _ rfl ?_)) (by (repeat first | exact A5 | (refine A6 ?_ ?_; exact H3))) (Nat.le_refl _)
         ·refine B7 rfl ?_; rintro ⟨_, _, q3, _⟩; obtain ⟨e1, e2⟩ := q3 i2 (by omega); first | exact h11_9 e1 | exact h11_20 e2
        ·refine B7 rfl ?_; rintro ⟨_, _, q3, _⟩; obtain ⟨e1, e2⟩ := q3 i2 (by omega); first | exact h11_9 e1 | exact h11_20 e2
       ·refine A9 (fun (i3 : Nat) => [.unk, .ptr 0 0 0, .unk, .unk, .unk, .int .i64 i3]) (fun (i3 : Nat) => hp [(0, ⟨[[.int .i64 G.nd, .sl false false (G.fa.map iT), .sl false false (G.rs.map Rep.T), .sl false false (G.wi.map Pc.T), .sl false false (G.se.map Msg.T)]], 5, 67⟩)]) (fun (i3 : Nat) => 1) (fun (i3 : Nat) => i3 ≤ G.se.length ∧ ∀ j, j < i3 → sgM G.nd (G.se.getD j Msg0)) (fun (i3 : Nat) => G.se.length - i3) 0 ?_ ?_ ?_ ?_ ?_
        ·exact ⟨Nat.zero_le _, F6⟩
        ·(repeat first | exact LE.nil _ | refine LE.unk _ _ ?_ | refine LE.eq _ _ _ rfl ?_)
        ·(repeat first | exact A5 | (refine A6 ?_ ?_; exact H3))
        ·exact Nat.le_refl _
        intro i3 hI ih
        obtain ⟨w0, w2⟩ := hI
        refine A3 (st := []) ?_
        refine A2 ?_ (by exact Q0) (by exact Q4)
        refine br ?_ ?_ <;> intro h14_4
        ·refine A2 ?_ (by exact Q0) (by exact Q4)
         refine A2 ?_ (by exact Q0) (by exact Q4)
         (refine C0 (D1 (by first | rfl | assumption | exact Q30) rfl ?_))
         refine B8 (r93 G.nd (G.se.getD i3 Msg0)) rfl j2 ?_ ?_ <;> intro h16_7
         ·refine E2 ⟨by exact H1, by exact H1⟩ ?_
          exact C9 (ih (i3 + 1) ⟨by omega, E0 w2 h16_7⟩ (by omega)) (by (repeat first | exact LE.nil _ | refine LE.unk _ _ ?_ | refine LE.eq _ _ _ rfl ?_)) (by (repeat first | exact A5 | (refine A6 ?_ ?_; exact H3))) (Nat.le_refl _)
         ·refine B7 rfl ?_; rintro ⟨_, _, _, q4⟩; exact h16_7 (q4 i3 (by omega))
        ·refine C3 rfl ?_; exact ⟨⟨h1_2, h1_9, by omega, by omega, by omega⟩, fun j hj => u2 j (by omega), fun j hj => v2 j (by omega), fun j hj => w2 j (by omega)⟩
  ·refine B7 rfl ?_; rintro ⟨⟨q1, q2, q3, q4, q5⟩, _⟩; first | exact h1_2 q1 | exact h1_9 q2 | omega
 ·refine B7 rfl ?_; rintro ⟨⟨q1, q2, q3, q4, q5⟩, _⟩; first | exact h1_2 q1 | exact h1_9 q2 | omega
open Go.V
set_option linter.unusedVariables false
set_option linter.unusedSimpArgs false
set_option maxRecDepth 20000
set_option maxHeartbeats 4000000
theorem lgS_le {G : Grp} (h : ∀ i, i < G.rs.length → (G.rs.getD i Rep0).lg.length ≤ 1048576) : ∀ i, (lgS G i).length ≤ 1048576
 | 0 => Nat.zero_le _
 | i + 1 => by
  by_cases q : ¬ isF G.fa (i : Int) ∧ (G.rs.getD i Rep0).lg.length > (lgS G i).length
  ·rw [AU q.1 q.2]
   rcases Nat.lt_or_ge i G.rs.length with z | z
   ·exact h i z
   ·rw [show G.rs.getD i Rep0 = Rep0 by simp [z]]; exact Nat.zero_le _
  ·rw [AV q]; exact lgS_le h i
theorem lg_sm {G : Grp} (hR : ∀ i, i < G.rs.length → TBs 1048576 (G.rs.getD i Rep0).T) : ∀ i, i < G.rs.length → (G.rs.getD i Rep0).lg.length ≤ 1048576 := fun i hi => (Rep.sm (hR i hi)).2.2.2.2.2.1
open Go Go.V
set_option linter.unusedVariables false
set_option linter.unusedSimpArgs false
open Go.V
set_option linter.unusedVariables false
set_option linter.unusedSimpArgs false
set_option maxRecDepth 20000
set_option maxHeartbeats 4000000
theorem one1 {i j : Nat} {x b : Blk} (hb : app [(i, some x)] (fun _ => none) j = some b) : j = i ∧ b = x := by
 rw [V.appC, V.app0] at hb
 by_cases hj : j = i
 ·subst hj; rw [V.upd_same] at hb; exact ⟨rfl, (Option.some.inj hb).symm⟩
 ·rw [V.upd_ne _ _ hj] at hb; cases hb
open Go.V
set_option linter.unusedVariables false
set_option linter.unusedSimpArgs false
set_option maxRecDepth 20000
set_option maxHeartbeats 4000000
theorem AX (L : List ByteArray) : L.map tV = rowsV (L.map tT) := by unfold rowsV; rw [List.map_map]; rfl
theorem s20e (b : Bool) (W : List ByteArray) (hW : W = []) (k : Int) : Pure En 20 [.one (.sl b (W.map tT)), .one (.int .i64 k)] [.one (.int .i64 k)] := by
 subst hW
 refine Pure.of_ev (st := []) Tryz.func20 rfl kb ?_
 refine A3 (st := []) ?_
 refine br (fun h => absurd h ((by decide))) ?_
 intro h2_3
 exact C2 rfl rfl
theorem s21e (b : Bool) (W : List ByteArray) (hW : W = []) : Pure En 21 [.one (.sl b (W.map tT)), .one (.int .i64 1)] [.one (.int .i64 1)] := by
 subst hW
 exact s21 b 1 0 (by omega) (by omega)
theorem flat1 {k : Nat} {es : List (List V)} {sz ty : Nat} (h : ∀ e ∈ es, ∀ x ∈ e, x.flat = true) : ∀ id b, app [(k, some ⟨es, sz, ty⟩)] (fun _ => none) id = some b → ∀ e ∈ b.es, ∀ x ∈ e, x.flat = true := fun id b hb => by
 obtain ⟨_, rfl⟩ := one1 hb
 exact h
open Go Go.V
set_option linter.unusedVariables false
set_option linter.unusedSimpArgs false
set_option maxRecDepth 20000
set_option maxHeartbeats 4000000
noncomputable def lgW (G : Grp) : List ByteArray := if G.OK then lgO G else []
noncomputable def lgC (G : Grp) : Int := if G.OK then 0 else 1
theorem AY {G : Grp} (h : G.OK) : lgW G = lgO G := if_pos h
theorem lgW_n {G : Grp} (h : ¬ G.OK) : lgW G = [] := if_neg h
theorem lgC_y {G : Grp} (h : G.OK) : lgC G = 0 := if_pos h
theorem lgC_n {G : Grp} (h : ¬ G.OK) : lgC G = 1 := if_neg h
theorem lgW_le {G : Grp} (hb : TBs 1048576 G.T) : (lgW G).length ≤ 1048576 := by
 obtain ⟨hF, hR0, hR, hW, hS9⟩ := Grp.sm hb
 by_cases h : G.OK
 ·rw [AY h, lgO_eq]; exact lgS_le (lg_sm hR) _
 ·rw [lgW_n h]; exact Nat.zero_le _
theorem rowsSg3 (L : List ByteArray) : (L.map tT).map (fun x => List.map (T.toV false) x) = L.map tV := by rw [List.map_map]; rfl
def V.data2 : V → Bool
 | .agg cs => cs.all V.data
 | v => v.data
theorem VR.data2 {c c' : Cx} {x : V} {v : Value} (hx : V.data2 x = true) (h : VR c x v) (hi : ∀ b, c.I b → c'.I b) (G0 : c'.B = c.B ∧ c'.w = c.w) : VR c' x v := by
 obtain ⟨hB, hw⟩ := G0
 cases h with
 | agg cs vs hl h => exact .agg cs vs hl fun i x v h1 h2 => VR.data (List.all_eq_true.1 hx x (List.mem_of_getElem? h1)) (h i x v h1 h2) hi hB hw
 | bool b => exact .bool b
 | int k n => exact .int k n
 | str s => exact .str s
 | nilp => exact .nilp
 | nilf => exact .nilf
 | nsl => exact .nsl
 | sl fr nn es v h => exact VR.data (x := .sl fr nn es) rfl (.sl fr nn es v h) hi hB hw
 | view id off len p o cap hp ho hl hm => cases hx
 | ptr id i j p hp hm => cases hx
 | map id p hp hm => cases hx
 | iptr fr cs b o rd hI hrd hsub => cases hx
 | clo f caps vs hl h => cases hx
 | tup cs vs hl h => cases hx
 | unk v => cases hx
 | vcap id off len cp p o hp ho hl hm => cases hx
theorem openSh2 {E : Env} {f : FuncId} {args : List V} {id len m : Nat} {es : List (List V)} {sz ty : Nat} {kc : IntKind} {cd : Int}
  (H : V.Open E f args (fun _ => none) 0 (.tup [.view id 0 len, .int kc cd]) [(id, some ⟨es, sz, ty⟩)] m)
  (hda : ∀ x ∈ args, V.data2 x = true) (hes : ∀ e ∈ es, ∀ x ∈ e, x.data = true) (n : Nat) :
  V.Open E f args (fun _ => none) n (.tup [.view n 0 len, .int kc cd]) [(n, some ⟨es, sz, ty⟩)] (n + 1) := by
 unfold V.Open at H ⊢
 obtain ⟨⟨hcp, _⟩, H⟩ := H
 refine ⟨⟨hcp, Nat.le_succ n⟩, fun c vs hg hfr hal har => ?_⟩
 let c0 : Cx := { ρ := fun _ => none, I := c.I, B := c.B, w := c.w }
 have hg0 : V.Good E c0 (fun _ => none) := by
  refine ⟨fun _ _ h => (nomatch h), fun _ _ _ _ _ _ h => (nomatch h), hg.imm, fun _ _ _ h => (nomatch h), fun _ _ h => (nomatch h), hg.base, fun g cs hgc => ?_⟩
  have := hg.glob g cs hgc
  cases this with
  | iptr _ _ b off rd hI hrd' hsub => exact .iptr false cs g 0 rd hI hrd' hsub
 refine Calls.mono (H c0 vs hg0 (fun _ _ => rfl) hal (fun i x u h1 h2 => VR.data2 (hda x (List.mem_of_getElem? h1)) (har i x u h1 h2) (fun _ h => h) j2)) ?_
 rintro e w' ⟨u, c', rfl, rfl, hx2, hg2, hd2, hv2⟩
 have hb0 : app [(id, some (⟨es, sz, ty⟩ : Blk))] (fun _ => none) id = some ⟨es, sz, ty⟩ := by
  rw [V.appC, V.app0]; exact V.upd_same _ _ _
 obtain ⟨p, hp, hpc, hpm⟩ := hg2.blk id _ hb0
 let c2 : Cx := { ρ := fun j => if j = n then some p else c.ρ j, I := c'.I, B := c'.B, w := c'.w }
 have hcn : c.ρ n = none := hfr n (Nat.le_refl n)
 have r1 : ∀ j q, c.ρ j = some q → c2.ρ j = some q := fun j q hq => by
  show (if j = n then some p else c.ρ j) = some q
  rw [if_neg (fun e => by rw [e, hcn] at hq; cases hq), hq]
 have vd : ∀ (x : V) (v : Value), x.data = true → VR c' x v → VR c2 x v := fun x v hx h => VR.data hx h (fun _ h => h) rfl rfl
 have hb2 : ∀ j b, app [(n, some (⟨es, sz, ty⟩ : Blk))] (fun _ => none) j = some b → j = n ∧ b = ⟨es, sz, ty⟩ := fun j b hb => by
  have hb : upd (fun _ => none) n (some (⟨es, sz, ty⟩ : Blk)) j = some b := hb
  by_cases hj : j = n
  ·subst hj; rw [upd_same] at hb; exact ⟨rfl, (Option.some.inj hb).symm⟩
  ·rw [upd_ne _ _ hj] at hb; cases hb
 have hpn : c2.ρ n = some p := if_pos rfl
 refine ⟨u, c2, rfl, rfl, ⟨hx2.B, r1, hx2.imm, hx2.keep, hx2.below⟩, ⟨fun j b hb => ?_, fun j j' b b' q q' hb hb' _ _ _ => (hb2 j b hb).1.trans (hb2 j' b' hb').1.symm, hg2.imm, fun j b q hb hq => ?_, fun j q hq => ?_, hg2.base, fun g cs hgc => ?_⟩, fun j hj => ?_, ?_⟩
 ·obtain ⟨rfl, rfl⟩ := hb2 j b hb
  refine ⟨p, hpn, fun hm => ?_, fun hm => ?_⟩
  ·obtain ⟨cells, fz, j2, j3, j4, j5, j6, j7, j8⟩ := hpc hm
   refine ⟨cells, fz, j2, j3, j4, j5, j6, j7, fun i k x hx => ?_⟩
   obtain ⟨w, m1, m2, m3⟩ := j8 i k x hx
   refine ⟨w, m1, vd x w ?_ m2, m3⟩
   unfold get2 at hx
   cases he : es[i]? with
   | none => simp [he] at hx
   | some e =>
    simp only [he, Option.bind_some] at hx
    exact hes e (List.mem_of_getElem? he) x (List.mem_of_getElem? hx)
  ·obtain ⟨en, j1, j2, j3⟩ := hpm hm
   refine ⟨en, j1, j2, fun i row hr => ?_⟩
   obtain ⟨e, k, x, m1, m2, m3, m4, m5⟩ := j3 i row hr
   have hfr := hes row (List.mem_of_getElem? hr)
   exact ⟨e, k, x, m1, m2, m3, vd k _ (hfr k (by rw [m2]; simp)) m4, vd x _ (hfr x (by rw [m2]; simp)) m5⟩
 ·obtain ⟨rfl, rfl⟩ := hb2 j b hb
  rw [hpn] at hq; obtain rfl := Option.some.inj hq
  exact hg2.sep id _ p hb0 hp
 ·have hq : (if j = n then some p else c.ρ j) = some q := hq
  by_cases hj : j = n
  ·rw [if_pos hj] at hq; obtain rfl := Option.some.inj hq
   exact hg2.own id p hp
  ·rw [if_neg hj] at hq
   have h1 := hg.own j q hq
   have h2 : c.w.heap.size ≤ c'.w.heap.size := hx2.below.size
   have h3 : c'.B = c.B := hx2.B
   exact ⟨by show c'.B ≤ q.b; rw [h3]; exact h1.1, Nat.lt_of_lt_of_le h1.2 h2⟩
 ·have := hg2.glob g cs hgc
  cases this with
  | iptr _ _ b off rd hI hrd' hsub => exact .iptr false cs g 0 rd hI hrd' hsub
 ·have hj : (if j = n then some p else c.ρ j) ≠ none := hj
  by_cases h : j = n
  ·exact .inr ⟨by omega, by omega⟩
  ·rw [if_neg h] at hj; exact .inl hj
 ·cases hv2 with
  | tup _ us hl h =>
   refine .tup _ us hl fun i x v h1 h2 => ?_
   match i with
   | 0 =>
    obtain rfl := Option.some.inj h1
    have h3 := h 0 _ v rfl h2
    cases h3 with
    | view _ _ _ q o cap hq ho hl hm =>
     rw [hp] at hq; obtain rfl := Option.some.inj hq
     exact .view n 0 len p o cap hpn ho hl hm
   | 1 =>
    obtain rfl := Option.some.inj h1
    exact vd _ v rfl (h 1 _ v rfl h2)
   | i + 2 => simp at h1
theorem r40 (G : Grp) (hb : TBs 1048576 G.T) : Pure En 40 [.agg G.T] [.one (.sl false ((lgW G).map tT)), .one (.int .i64 (lgC G))] := by
 obtain ⟨hF, hR0, hR, hW, hS9⟩ := Grp.sm hb
 have hlg := lg_sm hR
 have hly : (ly G).length ≤ G.rs.length := N6 G G.rs.length
 refine Pure.of_ev (st := []) Tryz.func40 rfl kb ?_
 (apply D2 (vs := [.int _ _, _, _, _, _]) j2; exact Q0; rfl; rfl; exact kb; rfl)
 refine B8 (r32 G hb) rfl j2 ?_ ?_ <;> intro h1_1
 ·have hnd : (G.rs.length : Int) = G.nd := h1_1.1.2.2.1
  (apply D2 (vs := [.int _ _, _, _, _, _]) j2; exact Q0; rfl; rfl; exact kb; rfl)
  refine C5 (r105 G hF hnd hR0 (lgS_le hlg)) rfl rfl rfl ?_
  rw [AY h1_1, lgC_y h1_1]
  exact C2 rfl rfl
 ·refine F2 (es := []) j4 kz kb rfl rfl ?_
  rw [lgW_n h1_1, lgC_n h1_1]
  refine D3 [1] rfl ?_
  exact SnapL.cons _ _ _ _ (.one _ _ (.weak _ _ (B5 [] (List.mem_singleton.2 rfl) (by exact Q0) rfl rfl))) (SnapL.cons _ _ _ _ (.one _ _ (.int _ _)) SnapL.nil)
theorem o110 (s0 : ByteArray) (l0 : List ByteArray) (hL : (s0 :: l0).length ≤ 1048577) {h : Heap} {n : Nat} : ∃ x : Nat × Nat, (n ≤ x.1 ∧ x.1 < x.2) ∧ V.Open En 110 [.sl false false ((s0 :: l0).map tT)] h n (.view x.1 0 (s0 :: l0).length) [(x.1, some ⟨(s0 :: l0).map tV, 1, 9⟩)] x.2 := by
 have hl : ((s0 :: l0).map tT).length = (s0 :: l0).length := List.length_map ..
 refine V.Open.of_evX (st := []) Tryz.func110 rfl kb ?_
 refine F2 (es := []) j4 kz kb rfl rfl ?_
 (apply eap (s' := 16)  rfl rfl; exact Q0; exact j2; exact Q23; exact j2; exact kz; exact O8; exact Q33; (first | omega | (focus (simp only [List.length_cons, List.length_nil]; omega)) | (first | exact Nat.le_of_ble_eq_true rfl | (focus (rw [List.length_map]; omega)) | (focus (simp; omega)))); (first | omega | (focus (simp only [List.length_cons, List.length_nil]; omega)) | (first | exact Nat.le_of_ble_eq_true rfl | (focus (rw [List.length_map]; omega)) | (focus (simp; omega)))))
 exact ⟨(n + 1, _), ⟨by dsimp only; omega, by dsimp only; omega⟩, fiO rfl (congrArg (V.view (n + 1) 0) (by simp)) (leWr (by
  intro j hj
  simp only [List.map_cons, List.map_nil, List.mem_cons, List.not_mem_nil, or_false] at hj
  rcases hj with rfl; (simp (disch := omega) only [↓app0, ↓appC, ↓updS, ↓updN]); exact congrArg (fun z => some (Blk.mk z 1 9)) (rowsSg3 _)) (fun j hj hn => by
  simp only [List.map_cons, List.map_nil, List.mem_cons, List.not_mem_nil, or_false, not_or] at hn
  simp (disch := omega) only [↓app0, ↓appC, ↓updS, ↓updN])) (Nat.le_refl _)⟩
theorem s110n : Pure En 110 [.one .nsl] [.one (.sl false [])] := by
 refine Pure.of_ev (st := []) Tryz.func110 rfl kb ?_
 refine D3 [] rfl ?_
 exact SnapL.cons _ _ _ _ (.one _ _ .nslW) SnapL.nil
theorem o41a (G : Grp) (hb : TBs 1048576 G.T) (hok : G.OK) {s0 : ByteArray} {l0 : List ByteArray} (hz : lgO G = s0 :: l0) : ∃ x : Nat × Nat, True ∧ V.Open En 41 ([A.agg G.T].map (A.toV false)) (fun _ => none) 0 (.tup [.view x.1 0 (s0 :: l0).length, .int .i64 0]) [(x.1, some ⟨(s0 :: l0).map tV, 1, 9⟩)] x.2 := by
 have hLW := lgW_le hb
 rw [AY hok, hz] at hLW
 obtain ⟨hF, hR0, hR, hW, hS9⟩ := Grp.sm hb
 have hlg := lg_sm hR
 have hly : (ly G).length ≤ G.rs.length := N6 G G.rs.length
 have O106 : ∀ (hne : ∀ i, G.rs.length ≤ i → lyL G i ≠ []) {id : Nat} {h : Heap} {n : Nat} (hid : id < n) (hh : h id = some ⟨[[.int .i64 G.nd, .sl false false (G.fa.map iT), .sl false false (G.rs.map Rep.T), .sl false false (G.wi.map Pc.T), .sl false false (G.se.map Msg.T)]], 5, 67⟩), ∃ m : Nat, n ≤ m ∧ V.Open En 106 [.ptr id 0 0] h n (.sl false false ((s0 :: l0).map tT)) [] m := fun hne {id h n} hid hh => by have := o106 G hF hR0 hne hid hh; rw [bO_1 (by rw [hz]; exact List.cons_ne_nil _ _), hz] at this; exact this
 refine V.Open.of_evX (st := []) Tryz.func41 rfl kb ?_
 (apply D2 (vs := [.int _ _, _, _, _, _]) j2; exact Q0; exact Q4; rfl; exact kb; rfl)
 refine B8 (s34 G hb) rfl j2 ?_ ?_ <;> intro h1_1
 ·refine eopX (O106 (ly_ne h1_1) (id := 0) ?_ ?_) rfl j2 ?_
  ·(first | omega | assumption | decide | exact Q1)
  ·(first | omega | assumption | decide | exact Q1)
  rintro m1 h3_0
  try dsimp only at h3_0
  refine eopX (o110 s0 l0 (by omega)) rfl j2 ?_
  rintro ⟨b, m2⟩ h3_1
  try dsimp only at h3_1
  exact ⟨(b, m2), trivial, fiO rfl rfl (leWr (by
   intro j hj
   simp only [List.map_cons, List.map_nil, List.mem_cons, List.not_mem_nil, or_false] at hj
   rcases hj with rfl; simp (disch := omega) only [↓app0, ↓appC, ↓updS, ↓updN]) (fun j hj hn => by omega)) (Nat.le_refl _)⟩
 ·exact absurd hok h1_1
theorem o41V (G : Grp) (hb : TBs 1048576 G.T) (hok : G.OK) (hz : lgW G ≠ []) (k : Nat) : V.Open En 41 ([A.agg G.T].map (A.toV false)) (fun _ => none) k (.tup [.view k 0 (lgW G).length, .int .i64 (lgC G)]) [(k, some ⟨(lgW G).map tV, 1, 9⟩)] (k + 1) := by
 rw [lgC_y hok]
 rw [AY hok] at hz ⊢
 obtain ⟨s0, l0, e⟩ := List.exists_cons_of_ne_nil hz
 rw [e]
 obtain ⟨⟨j, m⟩, _, hS⟩ := o41a G hb hok e
 exact openSh2 hS (fun x hx => by simp only [List.map_cons, List.map_nil, List.mem_cons, List.not_mem_nil, or_false] at hx; rcases hx with rfl; rfl) (fun e he x hx => by obtain ⟨s, _, rfl⟩ := List.mem_map.1 he; rw [show x = .str s from List.mem_singleton.1 hx]; rfl) k
theorem s41v (G : Grp) (hb : TBs 1048576 G.T) (hok : G.OK) {s0 : ByteArray} {l0 : List ByteArray} (hz : lgO G = s0 :: l0) : Pure En 41 [.agg G.T] [.one (.sl false ((s0 :: l0).map tT)), .one (.int .i64 0)] := by
 have hLW := lgW_le hb
 rw [AY hok, hz] at hLW
 obtain ⟨hF, hR0, hR, hW, hS9⟩ := Grp.sm hb
 have hlg := lg_sm hR
 have hly : (ly G).length ≤ G.rs.length := N6 G G.rs.length
 have O106 : ∀ (hne : ∀ i, G.rs.length ≤ i → lyL G i ≠ []) {id : Nat} {h : Heap} {n : Nat} (hid : id < n) (hh : h id = some ⟨[[.int .i64 G.nd, .sl false false (G.fa.map iT), .sl false false (G.rs.map Rep.T), .sl false false (G.wi.map Pc.T), .sl false false (G.se.map Msg.T)]], 5, 67⟩), ∃ m : Nat, n ≤ m ∧ V.Open En 106 [.ptr id 0 0] h n (.sl false false ((s0 :: l0).map tT)) [] m := fun hne {id h n} hid hh => by have := o106 G hF hR0 hne hid hh; rw [bO_1 (by rw [hz]; exact List.cons_ne_nil _ _), hz] at this; exact this
 refine Pure.of_ev (st := []) Tryz.func41 rfl kb ?_
 (apply D2 (vs := [.int _ _, _, _, _, _]) j2; exact Q0; exact Q4; rfl; exact kb; rfl)
 refine B8 (s34 G hb) rfl j2 ?_ ?_ <;> intro h1_1
 ·refine eopX (O106 (ly_ne h1_1) (id := 0) ?_ ?_) rfl j2 ?_
  ·(first | omega | assumption | decide | exact Q1)
  ·(first | omega | assumption | decide | exact Q1)
  rintro m1 h3_0
  try dsimp only at h3_0
  refine eopX (o110 s0 l0 (by omega)) rfl j2 ?_
  rintro ⟨b, m2⟩ h3_1
  try dsimp only at h3_1
  refine D3 [b] rfl ?_
  exact SnapL.cons _ _ _ _ (.one _ _ (.weak _ _ (B5 ((s0 :: l0).map tT) (List.mem_singleton.2 rfl) (by exact Q0) (AX _) (List.length_map ..).symm))) (SnapL.cons _ _ _ _ (.one _ _ (.int _ _)) SnapL.nil)
 ·exact absurd hok h1_1
theorem s41n (G : Grp) (hb : TBs 1048576 G.T) (hz : lgO G = []) : Pure En 41 [.agg G.T] [.one (.sl false ((lgW G).map tT)), .one (.int .i64 (lgC G))] := by
 obtain ⟨hF, hR0, hR, hW, hS9⟩ := Grp.sm hb
 have hlg := lg_sm hR
 have hly : (ly G).length ≤ G.rs.length := N6 G G.rs.length
 have O106 : ∀ (hne : ∀ i, G.rs.length ≤ i → lyL G i ≠ []) {id : Nat} {h : Heap} {n : Nat} (hid : id < n) (hh : h id = some ⟨[[.int .i64 G.nd, .sl false false (G.fa.map iT), .sl false false (G.rs.map Rep.T), .sl false false (G.wi.map Pc.T), .sl false false (G.se.map Msg.T)]], 5, 67⟩), ∃ m : Nat, n ≤ m ∧ V.Open En 106 [.ptr id 0 0] h n .nsl [] m := fun hne {id h n} hid hh => by have := o106 G hF hR0 hne hid hh; rw [bO_0 hz] at this; exact this
 refine Pure.of_ev (st := []) Tryz.func41 rfl kb ?_
 (apply D2 (vs := [.int _ _, _, _, _, _]) j2; exact Q0; exact Q4; rfl; exact kb; rfl)
 refine B8 (s34 G hb) rfl j2 ?_ ?_ <;> intro h1_1
 ·refine eopX (O106 (ly_ne h1_1) (id := 0) ?_ ?_) rfl j2 ?_
  ·(first | omega | assumption | decide | exact Q1)
  ·(first | omega | assumption | decide | exact Q1)
  rintro m1 h3_0
  try dsimp only at h3_0
  refine C5 s110n rfl rfl rfl ?_
  rw [AY h1_1, lgC_y h1_1, hz]; exact C2 rfl rfl
 ·rw [lgW_n h1_1, lgC_n h1_1]; refine D3 [] rfl ?_; exact SnapL.cons _ _ _ _ (.one _ _ .nslW) (SnapL.cons _ _ _ _ (.one _ _ (.int _ _)) SnapL.nil)
theorem s41b (G : Grp) (hb : TBs 1048576 G.T) (hno : ¬ G.OK) : Pure En 41 [.agg G.T] [.one (.sl false ((lgW G).map tT)), .one (.int .i64 (lgC G))] := by
 refine Pure.of_ev (st := []) Tryz.func41 rfl kb ?_
 (apply D2 (vs := [.int _ _, _, _, _, _]) j2; exact Q0; exact Q4; rfl; exact kb; rfl)
 refine B8 (s34 G hb) rfl j2 ?_ ?_ <;> intro h1_1
 ·exact absurd h1_1 hno
 ·rw [lgW_n h1_1, lgC_n h1_1]; refine D3 [] rfl ?_; exact SnapL.cons _ _ _ _ (.one _ _ .nslW) (SnapL.cons _ _ _ _ (.one _ _ (.int _ _)) SnapL.nil)
theorem s41 (G : Grp) (hb : TBs 1048576 G.T) : Pure En 41 [.agg G.T] [.one (.sl false ((lgW G).map tT)), .one (.int .i64 (lgC G))] := by
 by_cases hok : G.OK
 ·by_cases hz : lgO G = []
  ·exact s41n G hb hz
  ·obtain ⟨s0, l0, e⟩ := List.exists_cons_of_ne_nil hz
   rw [lgC_y hok, AY hok, e]
   exact s41v G hb hok e
 ·exact s41b G hb hok
end Go.Proofs.YteifdelnahccjaaGreatDoor
