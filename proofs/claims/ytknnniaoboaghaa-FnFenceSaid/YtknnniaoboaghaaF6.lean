import Derived.Lib.AppendZerosOnto
import Derived.Lib.Overlaps
import Derived.Test.YtknnniaoboaghaaF5
namespace Go.Proofs.Ytknnniaoboaghaa
open Go.V
set_option linter.unusedVariables false
set_option linter.unusedSimpArgs false
set_option maxRecDepth 20000
set_option maxHeartbeats 4000000
def strT (s : ByteArray) : List T := [.str s]
theorem s86 (s : ByteArray) : Pure En 86 [.one (.str s)] [.one (.bool (decide (s.size > 65536)))] := by
 refine Pure.of_wp Try.func86 rfl kb ?_
 refine A2 (A0 (C6 j5 (A3 (A1 (A2 (A0 (S7 j5 (rls rfl j5 ?_))))))))
 refine V4 j6 ?_ ?_ <;> intro h1_2
 ·refine C6 j5 (A3 (A1 (A9 ?_)))
  first | exact D2 rfl (by omega) | exact C9 rfl (by omega)
 ·refine C6 j5 (A3 (A1 (A9 ?_)))
  first | exact D2 rfl (by omega) | exact C9 rfl (by omega)
theorem o122 (fr nn : Bool) (L : List ByteArray) (hL : L.length ≤ 1048576) {h : Heap} {n : Nat} : ∃ r : Int, (0 ≤ r ↔ ∃ s ∈ L, s.size > 65536) ∧ V.Open En 122 [.sl fr nn (L.map strT), .clo 86 []] h n (.int .i64 r) [] n := by
 have hl : (L.map strT).length = L.length := List.length_map ..
 refine V.Open.of_wpX (v := fun r => .int .i64 r) (wr := fun _ => []) (m := fun _ => n) Try.func122 rfl kb ?_
 refine A2 (A0 (D0 j5 (A3 (A1 (A2 (A2 (A0 (I8 j5 (H0 rfl rfl rfl j3 (B6 j5 (A3 (A1 ?_))))))))))))
 refine B3 (F0 ?_)
 refine E9 (fun (i : Nat) => [.sl fr nn (L.map strT), .clo 86 [], .unk, .unk, .unk, .unk, .unk, .int .i64 (L.map strT).length, .int .i64 i]) (fun (i : Nat) => h) (fun (i : Nat) => n) (fun (i : Nat) => i ≤ L.length ∧ ∀ j, j < i → ¬ (L.getD j ⟨#[]⟩).size > 65536) (fun (i : Nat) => L.length - i) 0 ?_ ?_ ?_ ?_ ?_
 ·exact ⟨Nat.zero_le _, W5⟩
 ·(repeat first | exact LE.nil _ | refine LE.unk _ _ ?_ | refine LE.eq _ _ _ rfl ?_)
 ·exact LessH.refl _
 ·exact Nat.le_refl _
 intro i hI ih
 refine E8 (A2 (A0 ?_))
 refine I6 j6 ?_ ?_ <;> intro h2_0
 ·refine A3 (A1 (A2 (wT rfl (B0 (A1 (A2 (B3 (A2 (A0 (B6 j5 (D0 j5 (A3 ?_))))))))))))
  refine A1 (A2 (A0 (rmC j5 (I8 j5 (B6 j5 ?_)))))
  (apply N0 j4; exact Q4; (first | rfl | assumption | (exact D8 strT ⟨#[]⟩ (by omega))); exact j4)
  refine rlic (v := .str _) j8 ?_
  refine F3 (s86 _) rfl j5 ?_ ?_ <;> intro h4_5
  ·refine A3 (A1 (wT rfl (A2 (A0 (B6 j5 (D0 j5 (A3 (A1 (A9 (B4 (B2 (I4 ?_))))))))))))
   refine B4 (B2 ?_)
   exact ⟨i, ⟨fun _ => ⟨L.getD i ⟨#[]⟩, by rw [List.getD_eq_getElem?_getD, List.getElem?_eq_getElem (show i < L.length by omega)]; exact List.getElem_mem _, h4_5⟩, fun _ => by omega⟩, E7 rfl rfl (fun _ _ _ e => e) (Nat.le_refl _)⟩
  ·refine A3 (A1 (wF rfl (B0 (B7 (A1 (A0 (C3 j3 ?_ ?_ j3 ?_)))))))
   ·exact Q4
   ·exact Q4
   refine B6 j5 (A3 (D1 ?_))
   exact H4 (ih (i + 1) ⟨by omega, U7 hI.2 h4_5⟩ (by omega)) (by (repeat first | exact LE.nil _ | refine LE.unk _ _ ?_ | refine LE.eq _ _ _ rfl ?_)) (LessH.refl _) (Nat.le_refl _)
 ·refine A3 (A1 (A2 (wF rfl (E5 (E6 (D7 (C8 (A1 (A2 (A0 (D0 j5 (A3 ?_))))))))))))
  refine A1 (A9 ?_)
  exact ⟨-1, ⟨fun h => absurd h (by decide), fun ⟨s, h1, h2⟩ => by
   obtain ⟨j, hj, rfl⟩ := List.getElem_of_mem h1
   have := hI.2 j (by omega)
   rw [List.getD_eq_getElem?_getD, List.getElem?_eq_getElem hj] at this
   exact absurd h2 this⟩, E7 rfl rfl (fun _ _ _ e => e) (Nat.le_refl _)⟩
theorem o85 (fr nn : Bool) (L : List ByteArray) (hL : L.length ≤ 1048576) {h : Heap} {n : Nat} : V.Open En 85 [.sl fr nn (L.map strT), .clo 86 []] h n (.bool (decide (∃ s ∈ L, s.size > 65536))) [] n := by
 refine V.Open.of_wp Try.func85 rfl kb ?_
 refine A2 (A0 (C6 j5 (A3 (A1 (A2 (A0 (I8 j5 (rmC j5 (K7 (o122 fr nn L hL) rfl j5 ?_)))))))))
 rintro r h1_2
 try dsimp only at h1_2
 refine rge j6 ?_ ?_ <;> intro h1_3
 ·refine C6 j5 (A3 (A1 (A9 ?_)))
  first
   | (rw [decide_eq_true (h1_2.1 h1_3)]; exact E7 rfl rfl (fun _ _ _ e => e) (Nat.le_refl _))
   | (rw [decide_eq_false (fun e => h1_3 (h1_2.2 e))]; exact E7 rfl rfl (fun _ _ _ e => e) (Nat.le_refl _))
 ·refine C6 j5 (A3 (A1 (A9 ?_)))
  first
   | (rw [decide_eq_true (h1_2.1 h1_3)]; exact E7 rfl rfl (fun _ _ _ e => e) (Nat.le_refl _))
   | (rw [decide_eq_false (fun e => h1_3 (h1_2.2 e))]; exact E7 rfl rfl (fun _ _ _ e => e) (Nat.le_refl _))
theorem s47 (s : ByteArray) : Pure En 47 [.one (.sl true [[.str s]])] [.one (.bool (decide (s.size > 65536)))] := by
 refine Pure.of_wp Try.func47 rfl kb ?_
 refine A2 (A0 (C6 j5 (A3 (A1 (A2 (A0 (I8 j5 (ropB (o85 false true [s] kb) rfl j5 ?_ ?_))))))))
 all_goals intro h1_1
 ·refine C6 j5 (A3 (A1 (A9 ?_)))
  first
   | exact D2 rfl (by have := of_decide_eq_true h1_1; simpa using this)
   | exact C9 rfl (by have := of_decide_eq_false h1_1; simpa using this)
 ·refine C6 j5 (A3 (A1 (A9 ?_)))
  first
   | exact D2 rfl (by have := of_decide_eq_true h1_1; simpa using this)
   | exact C9 rfl (by have := of_decide_eq_false h1_1; simpa using this)
def cb (a b : ByteArray) : Int := Lib.compareBytes a.data.toList b.data.toList
theorem hcmp (a b : ByteArray) (w : World) : (callFunc 144 #[.string a, .string b]).run En.P w = .ok (.value (.int .i64 (cb a b))) w := by
 show (callFunc 144 #[.string a, .string b]).run Try.prog w = _
 rw [run_callFunc_extern Try.func144 (by kernel_rfl) (by kernel_rfl) (by kernel_rfl) (e := Extern.BytealgCompare.compare) (by kernel_rfl), Lib.run_compareString]; rfl
theorem s123 (a b : ByteArray) : Pure En 123 [.one (.str a), .one (.str b)] [.one (.int .i64 (cb a b))] := by
 refine Pure.of_wp Try.func123 rfl kb ?_
 refine A2 (A0 (D0 j5 (A3 (A1 (A2 (A0 (S7 j5 (S7 j5 (rx2 (hcmp a b) rfl j6 (D0 j5 (A3 (A1 ?_))))))))))))
 refine A9 ?_
 exact fin rfl rfl
theorem s89 (a b : ByteArray) : Pure En 89 [.one (.str a), .one (.str b)] [.one (.int .i64 (cb a b))] := by
 refine Pure.of_wp Try.func89 rfl kb ?_
 refine A2 (A0 (D0 j5 (A3 (A1 (A2 (A0 (S7 j5 (S7 j5 (AB (s123 a b) rfl j5 (D0 j5 (A3 (A1 ?_))))))))))))
 refine A9 ?_
 exact fin rfl rfl
def Lk.V (l : Lk) (W : V) : List V := [.str l.nm, .int .i64 l.tk, .int .i64 l.hd, .int .i64 l.ex, W]
theorem o88 (l : Lk) (W : V) (hW : W.cell = true) (s : ByteArray) {h : Heap} {n : Nat} : V.Open En 88 [.agg (l.V W), .str s] h n (.int .i64 (cb l.nm s)) [] (n + 1) := by
 refine V.Open.of_wp Try.func88 rfl kb ?_
 refine A2 (A0 ?_)
 (refine L7 (u := .agg (l.V W)) j3 ?_ j3 ?_; (show (W.cell && true) = true; rw [hW]; rfl))
 refine D0 j5 (A3 (A1 (A2 (A0 (C1 (off := 0) (s := 1) (r := false) j3 kz j3 ?_)))))
 (apply C5 (v := .str _) j2; exact Q0; rfl; exact j5)
 refine S7 j5 (AB (s89 _ _) rfl j5 (D0 j5 (A3 (A1 (A9 ?_)))))
 exact E7 rfl rfl (K8 (fun j hj => absurd hj List.not_mem_nil) (fun j hj hn => by first | rfl | (simp (disch := omega) only [↓app0, ↓appC, ↓updS, ↓updN]))) (Nat.le_refl _)
theorem cmpL : ∀ a b : List UInt8, (Lib.compareBytes a b < 0 ↔ a < b) ∧ (Lib.compareBytes a b = 0 ↔ a = b)
 | [], [] => by simp [Lib.compareBytes]
 | [], _ :: _ => by simp [Lib.compareBytes]
 | _ :: _, [] => by simp [Lib.compareBytes]
 | a :: x, b :: y => by
  have ih := cmpL x y
  unfold Lib.compareBytes
  rw [List.cons_lt_cons_iff, List.cons.injEq]
  by_cases h1 : a < b
  ·rw [if_pos h1]
   refine ⟨⟨fun _ => .inl h1, fun _ => by decide⟩, fun e => absurd e (by decide), fun e => ?_⟩
   rw [e.1] at h1; exact absurd h1 (UInt8.lt_irrefl _)
  ·rw [if_neg h1]
   by_cases h2 : b < a
   ·rw [if_pos h2]
    refine ⟨⟨fun e => absurd e (by decide), fun e => ?_⟩, fun e => absurd e (by decide), fun e => ?_⟩
    ·rcases e with e | e
     ·exact absurd e h1
     ·rw [e.1] at h2; exact absurd h2 (UInt8.lt_irrefl _)
    ·rw [e.1] at h2; exact absurd h2 (UInt8.lt_irrefl _)
   ·rw [if_neg h2]
    have e : a = b := UInt8.le_antisymm (UInt8.not_lt.1 h2) (UInt8.not_lt.1 h1)
    subst e
    simp [h1, ih.1, ih.2]
theorem X2 : ∀ (x y : List UInt8), Op.bytesLess x y = decide (x < y)
 | [], [] => by simp [Op.bytesLess]
 | _ :: _, [] => by simp [Op.bytesLess]
 | [], _ :: _ => by simp [Op.bytesLess]
 | a :: x, b :: y => by
  rw [Op.bytesLess, X2 x y]
  simp only [List.cons_lt_cons_iff]
  by_cases h1 : a < b <;> by_cases h2 : a = b <;> by_cases h3 : x < y <;> simp [h1, h2, h3]
theorem U3 (a b : ByteArray) : ltS a b ↔ a.data.toList < b.data.toList := by
 unfold ltS
 rw [Lib.toList_data, Lib.toList_data, X2, decide_eq_true_iff]
instance (a b : ByteArray) : Decidable (ltS a b) := by unfold ltS; infer_instance
theorem X3 {a b : ByteArray} : cb a b < 0 ↔ ltS a b := by rw [U3]; exact (cmpL _ _).1
theorem cb_eq {a b : ByteArray} : cb a b = 0 ↔ a = b := by
 unfold cb
 rw [(cmpL _ _).2]
 constructor
 ·intro e; cases a; cases b; simp at e ⊢; cases ‹Array UInt8›; cases ‹Array UInt8›; simpa using e
 ·intro e; rw [e]
theorem ltS_irr (a : ByteArray) : ¬ ltS a a := by rw [U3]; exact List.lt_irrefl _
theorem I7 {a b c : ByteArray} : ltS a b → ltS b c → ltS a c := by
 rw [U3, U3, U3]; exact fun h1 h2 => List.lt_trans h1 h2
def lnm (L : List Lk) (i : Nat) : ByteArray := (L.getD i Lk0).nm
def Srt (L : List Lk) : Prop := ∀ i, 0 < i → i < L.length → ltS (lnm L (i - 1)) (lnm L i)
theorem Srt.lt {L : List Lk} (hs : Srt L) {i : Nat} : ∀ {j : Nat}, i < j → j < L.length → ltS (lnm L i) (lnm L j)
 | 0, h, _ => absurd h (Nat.not_lt_zero _)
 | j + 1, h, h1 => by
  have e := hs (j + 1) (Nat.succ_pos _) h1
  rw [Nat.add_sub_cancel] at e
  by_cases e2 : i = j
  ·subst e2; exact e
  ·exact I7 (hs.lt (j := j) (by omega) (by omega)) e
theorem Tb.OK.srt {t : Tb} (h : t.OK) : Srt t.lk := fun i h0 h1 => (h.2.2.2.2.1 i h1).2 h0
def pos (s : ByteArray) : List Lk → Nat
 | [] => 0
 | l :: r => if ltS l.nm s then pos s r + 1 else 0
theorem T5 {s : ByteArray} : ∀ {L : List Lk} {p : Nat}, p ≤ L.length → (∀ j, j < p → ltS (lnm L j) s) → (p < L.length → ¬ ltS (lnm L p) s) → pos s L = p
 | [], p, h, _, _ => by simp at h; subst h; rfl
 | l :: r, 0, _, _, h => by unfold pos; rw [if_neg (by simpa [lnm] using h (by simp))]
 | l :: r, p + 1, h, h1, h2 => by
  unfold pos
  rw [if_pos (by simpa [lnm] using h1 0 (Nat.succ_pos _)), T5 (L := r) (p := p) (by simpa using h) (fun j hj => by simpa [lnm] using h1 (j + 1) (by omega)) (fun h3 => by simpa [lnm] using h2 (by simpa using h3))]
def hit (s : ByteArray) (L : List Lk) : Prop := pos s L < L.length ∧ lnm L (pos s L) = s
instance (s : ByteArray) (L : List Lk) : Decidable (hit s L) := by unfold hit; infer_instance
theorem hit_of {s : ByteArray} {L : List Lk} (hs : Srt L) {i : Nat} (h : i < L.length) (e : lnm L i = s) : pos s L = i ∧ hit s L := by
 have : pos s L = i := T5 (Nat.le_of_lt h) (fun j hj => e ▸ hs.lt hj h) (fun _ => by rw [e]; exact ltS_irr s)
 exact ⟨this, by rw [this]; exact h, by rw [this]; exact e⟩
theorem hit_no {s : ByteArray} {L : List Lk} (h : ∀ j, j < L.length → ¬ lnm L j = s) : ¬ hit s L := fun e => h _ e.1 e.2
def fix (s : ByteArray) (L : List Lk) : Int := if hit s L then pos s L else -1
theorem s43 (t : Tb) (b n1 n2 : Bool) (s : ByteArray) (hs : Srt t.lk) (hL : t.lk.length ≤ 1048576) : Pure En 43 [.agg (t.T b n1 n2), .one (.str s)] [.one (.int .i64 (fix s t.lk))] := by
 have hl : (t.lk.map (Lk.T b)).length = t.lk.length := List.length_map ..
 refine Pure.of_wp Try.func43 rfl kb ?_
 refine A2 (A0 (L7 (u := .agg [.int _ _, .int _ _, _, _]) j3 rfl j3 (D0 j5 (A3 (A1 (A2 (A2 (A0 (D0 j5 (A3 (A1 (B3 ?_))))))))))))
 refine F0 ?_
 refine E9 (fun (i : Nat) => [.unk, .str s, .ptr 0 0 0, .unk, .unk, .int .i64 i]) (fun (i : Nat) => hp [(0, ⟨[[.int .i64 t.tm, .int .i64 t.nx, .sl false n1 (t.lk.map (Lk.T b)), .sl false n2 (t.sn.map Sn.T)]], 4, 35⟩)]) (fun (i : Nat) => 1) (fun (i : Nat) => i ≤ t.lk.length ∧ ∀ j, j < i → ¬ lnm t.lk j = s) (fun (i : Nat) => t.lk.length - i) 0 ?_ ?_ ?_ ?_ ?_
 ·exact ⟨Nat.zero_le _, W5⟩
 ·(repeat first | exact LE.nil _ | refine LE.unk _ _ ?_ | refine LE.eq _ _ _ rfl ?_)
 ·(repeat first | exact E2 | (refine E3 ?_ ?_; exact S4))
 ·exact Nat.le_refl _
 intro i hI ih
 refine E8 (A2 (A2 (A0 (B6 j5 (C1 (off := 2) (s := 1) (r := false) j3 kz j3 ?_)))))
 (apply C5 (v := .sl _ _ _) j2; exact Q0; rfl; exact j5)
 refine H0 rfl rfl rfl j3 ?_
 refine I6 j6 ?_ ?_ <;> intro h2_4
 ·refine A3 (A1 (wT rfl (B0 (A1 (A2 (B3 (A2 (A0 (C1 (off := 2) (s := 1) (r := false) j3 kz j3 ?_)))))))))
  (apply C5 (v := .sl _ _ _) j2; exact Q0; rfl; exact j5)
  refine B6 j5 ?_
  (apply N0 j4; exact Q4; (first | rfl | assumption | (exact D8 (Lk.T b) Lk0 (k := i) (by omega))); exact j4)
  refine rfai (off := 0) (s := 1) (r := false) j3 kz j4 (rlic (v := .str _) j8 (S7 j5 ?_))
  refine rseq j6 ?_ ?_ <;> intro h4_7
  ·refine A3 (A1 (wT rfl (A2 (A0 (B6 j5 (D0 j5 (A3 (A1 (A9 (B4 (B2 (I4 ?_))))))))))))
   refine B4 (B2 ?_)
   first | (rw [fix, if_pos (hit_of hs (i := i) (by omega) h4_7).2, (hit_of hs (i := i) (by omega) h4_7).1]; exact fin rfl rfl)
  ·refine A3 (A1 (wF rfl (B0 (B7 (A1 (A0 (B6 j5 (C3 j3 ?_ ?_ j3 ?_))))))))
   ·exact Q4
   ·exact Q4
   refine D0 j5 (A3 (D1 ?_))
   exact H4 (ih (i + 1) ⟨by omega, U7 hI.2 h4_7⟩ (by omega)) (by (repeat first | exact LE.nil _ | refine LE.unk _ _ ?_ | refine LE.eq _ _ _ rfl ?_)) (by (repeat first | exact E2 | (refine E3 ?_ ?_; exact S4))) (Nat.le_refl _)
 ·refine A3 (A1 (wF rfl (E5 (E6 (D7 (C8 (A1 (A2 (A0 (D0 j5 (A3 (A1 ?_))))))))))))
  refine A9 ?_
  rw [fix, if_neg (hit_no fun j hj => hI.2 j (by omega))]; exact fin rfl rfl
open Go.V
set_option linter.unusedVariables false
set_option linter.unusedSimpArgs false
set_option maxRecDepth 20000
set_option maxHeartbeats 4000000
def mkG {α : Type} (f : α → List V) (z : List V) (L : List α) (i : Nat) : List (List V) := (L.take i).map f ++ List.replicate (L.length - i) z
theorem famA {w : Nat → Nat} {F : Nat → Option Blk} {n : Nat} {wr : List (Nat × Option Blk)} {h : Heap} {i : Nat} (inj : ∀ i j, i < n → j < n → w i = w j → i = j) (hi : i < n) : app (wr ++ famL w F n) h (w i) = F i := by
 rw [I3]; exact famI inj hi
theorem famAO {w : Nat → Nat} {F : Nat → Option Blk} {n : Nat} {wr : List (Nat × Option Blk)} {h : Heap} {id : Nat} (ho : ∀ i, i < n → w i ≠ id) : app (wr ++ famL w F n) h id = app wr h id := by
 rw [I3]; exact famO ho
def Sn.V (s : Sn) : List V := [.int .i64 s.cl, .int .i64 s.st, .int .i64 s.an.kd, .int .i64 s.an.tk, .int .i64 s.an.hd, .int .i64 s.an.ex]
def rwV (w : Nat → Nat) (L : List Lk) (i : Nat) : List V := (L.getD i Lk0).V (.view (w i) 0 (L.getD i Lk0).ws.length)
def lkR (w : Nat → Nat) (L : List Lk) : List (List V) := (List.range L.length).map (rwV w L)
def wsF (L : List Lk) (i : Nat) : Option Blk := some ⟨(L.getD i Lk0).ws.map wtV, 2, 123⟩
def zL : List V := [.str ⟨#[]⟩, .int .i64 0, .int .i64 0, .int .i64 0, .nsl]
theorem AG (w : Nat → Nat) (L : List Lk) : (lkR w L).length = L.length := by simp [lkR]
theorem lkR_get (w : Nat → Nat) (L : List Lk) {i : Nat} (h : i < L.length) : (lkR w L)[i]? = some (rwV w L i) := by simp [lkR, h]
theorem rowsSnV (fr : Bool) (L : List Sn) : ((L.map Sn.T).map fun r => r.map (T.toV fr)) = L.map Sn.V := by
 rw [List.map_map]; rfl
theorem lenSnF (fr : Bool) (L : List Sn) : ∀ c ∈ (L.map Sn.T).map (fun r => r.map (T.toV fr)), c.length = 6 := by
 rw [rowsSnV]; intro c hc; obtain ⟨r, hr, rfl⟩ := List.mem_map.1 hc; rfl
theorem rowsWtV (fr : Bool) (L : List Wt) : ((L.map wtT).map fun r => r.map (T.toV fr)) = L.map wtV := by
 rw [List.map_map]; rfl
theorem lenWtF (fr : Bool) (L : List Wt) : ∀ c ∈ (L.map wtT).map (fun r => r.map (T.toV fr)), c.length = 2 := by
 rw [rowsWtV]; intro c hc; obtain ⟨r, hr, rfl⟩ := List.mem_map.1 hc; rfl
theorem snapWs {h : Heap} {ids : List Nat} {r : Bool} {id m : Nat} {L : List Wt} (hid : id ∈ ids) (hb : h id = some ⟨L.map wtV, 2, 123⟩) (hm : m = L.length) : Snap h ids r (.view id 0 m) (.sl true (L.map wtT)) :=
 H7 (L.map wtT) hid hb (rowsWtV true L).symm (by rw [List.length_map]; exact hm)
theorem snapSn {h : Heap} {ids : List Nat} {r : Bool} {id m : Nat} {L : List Sn} (hid : id ∈ ids) (hb : h id = some ⟨L.map Sn.V, 6, 115⟩) (hm : m = L.length) : Snap h ids r (.view id 0 m) (.sl true (L.map Sn.T)) :=
 H7 (L.map Sn.T) hid hb (rowsSnV true L).symm (by rw [List.length_map]; exact hm)
theorem snapLk {h : Heap} {ids : List Nat} {r : Bool} {id m : Nat} {w : Nat → Nat} {L : List Lk} (hid : id ∈ ids) (hb : h id = some ⟨lkR w L, 5, 29⟩) (hm : m = L.length)
  (hw : ∀ i, i < L.length → w i ∈ ids) (hf : ∀ i, i < L.length → h (w i) = wsF L i) : Snap h ids r (.view id 0 m) (.sl true (L.map (Lk.T true))) := by
 subst hm
 have e : ((lkR w L).drop 0).take L.length = lkR w L := by rw [List.drop_zero, List.take_of_length_le (by rw [AG]; exact Nat.le_refl _)]
 have e2 : ∀ i, i < L.length → (L.map (Lk.T true))[i]? = some ((L.getD i Lk0).T true) := fun i h => D8 (Lk.T true) Lk0 h
 refine .view id 0 _ _ _ hid hb (by dsimp only; rw [AG]; omega) (by simp) (fun i x y h1 h2 => ?_) (fun i j x y h1 h2 => ?_)
 ·dsimp only at h1
  rw [e] at h1
  have hi : i < L.length := by have := (List.getElem?_eq_some_iff.1 h1).1; rw [AG] at this; exact this
  rw [lkR_get w L hi] at h1; rw [e2 i hi] at h2
  cases h1; cases h2; rfl
 ·dsimp only at h1
  rw [e] at h1
  unfold get2 at h1 h2
  by_cases hi : i < L.length
  ·rw [lkR_get w L hi] at h1; rw [e2 i hi] at h2
   match j with
   | 0 => cases h1; cases h2; exact .str _
   | 1 => cases h1; cases h2; exact .int _ _
   | 2 => cases h1; cases h2; exact .int _ _
   | 3 => cases h1; cases h2; exact .int _ _
   | 4 => cases h1; cases h2; exact snapWs (hw i hi) (hf i hi) rfl
   | j + 5 => exact absurd h1 nofun
  ·rw [show (lkR w L)[i]? = none from List.getElem?_eq_none (by rw [AG]; omega)] at h1; exact absurd h1 nofun
theorem snapTb {h : Heap} {ids : List Nat} {r : Bool} {lb sb m1 m2 : Nat} {w : Nat → Nat} {t : Tb} (hl : lb ∈ ids) (hs : sb ∈ ids) (hw : ∀ i, i < t.lk.length → w i ∈ ids)
  (k1 : h lb = some ⟨lkR w t.lk, 5, 29⟩) (kf : ∀ i, i < t.lk.length → h (w i) = wsF t.lk i) (k2 : h sb = some ⟨t.sn.map Sn.V, 6, 115⟩) (G0 : m1 = t.lk.length ∧ m2 = t.sn.length) :
  SnapA h ids r (.agg [.int .i64 t.tm, .int .i64 t.nx, .view lb 0 m1, .view sb 0 m2]) (.agg (t.T true true true)) := have ⟨e1, e2⟩ := G0;
 SnapC.agg (.cons _ _ _ _ (.int _ _) (.cons _ _ _ _ (.int _ _) (.cons _ _ _ _ (snapLk hl k1 e1 hw kf) (.cons _ _ _ _ (snapSn hs k2 e2) .nil))))
open Go.V
set_option linter.unusedVariables false
set_option linter.unusedSimpArgs false
set_option maxRecDepth 20000
set_option maxHeartbeats 4000000
open Go.V
set_option linter.unusedVariables false
set_option linter.unusedSimpArgs false
set_option maxRecDepth 20000
set_option maxHeartbeats 4000000
def szv (k : Int) (m : Nat) : Int := if k - m < 0 then -1 else k - m
open Go.V
set_option linter.unusedVariables false
set_option linter.unusedSimpArgs false
set_option maxRecDepth 20000
set_option maxHeartbeats 4000000
theorem P4 (l : List Int) : (strOf l).size = l.length := by
 simp [strOf, ByteArray.size]
theorem qd {a : Int} (h0 : 0 < a) (h1 : a ≤ 1152921504606846976) : 0 ≤ IntKind.i64.wrap (a.tdiv 10) ∧ IntKind.i64.wrap (a.tdiv 10) < a := by
 rw [Int.tdiv_eq_ediv_of_nonneg (by omega), wrap_i64 (by omega) (by omega)]; omega
theorem rd {a : Int} (h0 : 0 < a) (h1 : a ≤ 1152921504606846976) : 0 ≤ a.tmod 10 ∧ a.tmod 10 ≤ 9 := by
 rw [Int.tmod_eq_emod_of_nonneg (by omega)]; omega
theorem s94 (k : Int) (hk : 0 ≤ k ∧ k ≤ 1152921504606846976) : ∃ s : ByteArray, True ∧ Pure En 94 [.one (.int .i64 k)] [.one (.str s)] := by
 refine Pure.of_wpX Try.func94 rfl kb ?_
 refine A2 (A0 (raS j5 (A3 (A1 (A2 (A2 (A0 (B6 j5 ?_))))))))
 refine rle j6 ?_ ?_ <;> intro h1_1
 ·refine A3 (A1 (wT rfl (A2 (A0 (raS j5 (A3 (A1 (A9 (B2 ?_)))))))))
  first | exact ⟨_, trivial, fin rfl rfl⟩
 ·refine A3 (A1 (wF rfl (B0 (A1 (A2 (A0 (raS j5 (A3 (A1 (A2 (B3 (F0 ?_))))))))))))
  refine E9 (fun (a : Int × ByteArray × Nat) => [.int .i64 a.1, .unk, .unk, .str a.2.1]) (fun (a : Int × ByteArray × Nat) => hp []) (fun (a : Int × ByteArray × Nat) => a.2.2) (fun (a : Int × ByteArray × Nat) => 0 ≤ a.1 ∧ (a.2.1.size : Int) + a.1 ≤ k) (fun (a : Int × ByteArray × Nat) => a.1.toNat) (k, ⟨#[]⟩, 0) ?_ ?_ ?_ ?_ ?_
  ·exact ⟨by dsimp only; omega, by show ((0 : Nat) : Int) + k ≤ k; omega⟩
  ·(repeat first | exact LE.nil _ | refine LE.unk _ _ ?_ | refine LE.eq _ _ _ rfl ?_)
  ·exact E2
  ·exact Nat.le_refl _
  intro ⟨x, s, m⟩ hI ih
  dsimp only at hI ⊢
  have hq := fun h0 => qd (a := x) h0 (by omega)
  have hr := fun h0 => rd (a := x) h0 (by omega)
  refine E8 (A2 (A2 (A0 (B6 j5 ?_))))
  refine V4 j6 ?_ ?_ <;> intro h4_1
  ·refine A3 (A1 (wT rfl (B0 (A1 (B3 (A2 (A0 (B6 j5 (rrem j3 ?_ j3 ?_)))))))))
   ·exact Q37
   (have hr1 := hr (by omega); refine C3 j3 ?_ ?_ j3 ?_; omega; omega)
   refine rcv j7 (S8 (es := [[.int _ _]]) j4 kz kb rfl rfl j3 ?_)
   (apply rsg j4; (apply K0 rfl; exact Q0; (first | exact Nat.le_refl _ | omega | (simp; omega)); rfl); (intro s e; cases e); exact (show _ = List.map (fun b => [V.int .u8 b]) [_] from rfl); exact j3)
   refine S7 j5 (rcat j3 ?_ j3 ?_)
   ·exact Q37
   refine raS j5 (A3 (A1 (A0 (B6 j5 (rquo j3 ?_ j3 ?_)))))
   ·exact Q37
   refine D0 j5 (A3 (B7 (D1 ?_)))
   have hq1 := hq (by omega)
   exact H4 (ih (IntKind.i64.wrap (x.tdiv 10), strOf [IntKind.u8.wrap (48 + x.tmod 10)] ++ s, m + 1) ⟨by dsimp only; omega, by dsimp only; rw [ByteArray.size_append, P4]; show (((1 + s.size : Nat)) : Int) + _ ≤ _; omega⟩ (by dsimp only; omega)) (by (repeat first | exact LE.nil _ | refine LE.unk _ _ ?_ | refine LE.eq _ _ _ rfl ?_)) E2 (Nat.le_refl _)
  ·refine A3 (A1 (wF rfl (E5 (E6 (D7 (C8 (A1 (A2 (A0 (S7 j5 (rcat j3 ?_ j3 ?_)))))))))))
   ·exact Q37
   refine raS j5 (A3 (A1 (A9 ?_)))
   first | exact ⟨_, trivial, fin rfl rfl⟩
theorem mt_ex (k : Int) : ∃ s : ByteArray, 0 ≤ k ∧ k ≤ 1152921504606846976 → Pure En 94 [.one (.int .i64 k)] [.one (.str s)] := by
 by_cases h : 0 ≤ k ∧ k ≤ 1152921504606846976
 ·obtain ⟨s, _, h2⟩ := s94 k h; exact ⟨s, fun _ => h2⟩
 ·exact ⟨⟨#[]⟩, fun h' => absurd h' h⟩
noncomputable def Mt (k : Int) : ByteArray := Classical.choose (mt_ex k)
def mWt (y : Int) : Wt := (y, y + 1)
def mSn (y : Int) : Sn := ⟨y, y + 1, ⟨y + 1 + 1, y + 1 + 1 + 1, y + 1 + 1 + 1 + 1, y + 1 + 1 + 1 + 1 + 1⟩⟩
def MW (k : Int) (m : Nat) : List Wt := (List.range m).map fun (j : Nat) => mWt (k + 2 * (j : Int))
def MS (k : Int) (m : Nat) : List Sn := (List.range m).map fun (j : Nat) => mSn (k + 6 * (j : Int))
def mix {α : Type} (A L : List α) (i : Nat) : List α := A.take i ++ L.drop i
theorem mix_len {α : Type} {A L : List α} {i : Nat} (h : A.length = L.length) (hi : i ≤ L.length) : (mix A L i).length = L.length := by
 simp [mix]; omega
theorem mix_get {α : Type} {A L : List α} (d : α) {i j : Nat} (h : A.length = L.length) (hi : i ≤ L.length) : (mix A L i).getD j d = if j < i then A.getD j d else L.getD j d := by
 unfold mix
 rw [List.getD_eq_getElem?_getD]
 split
 ·rename_i hj
  rw [List.getElem?_append_left (by simp; omega), List.getElem?_take_of_lt hj, ← List.getD_eq_getElem?_getD]
 ·rename_i hj
  rw [List.getElem?_append_right (by simp; omega), List.getElem?_drop, List.length_take, ← List.getD_eq_getElem?_getD]
  congr 1; omega
open Go.V
set_option linter.unusedVariables false
set_option linter.unusedSimpArgs false
set_option maxRecDepth 20000
set_option maxHeartbeats 4000000
def kL (k : Int) : List Lk → Int
 | [] => k
 | l :: r => kL (k + 4 + 2 * (l.ws.length : Int)) r
theorem kL_snoc (k : Int) : ∀ (L : List Lk) (l : Lk), kL k (L ++ [l]) = kL k L + 4 + 2 * (l.ws.length : Int)
 | [], l => rfl
 | a :: r, l => kL_snoc (k + 4 + 2 * (a.ws.length : Int)) r l
theorem kL_take {k : Int} {L : List Lk} {i : Nat} (h : i < L.length) : kL k (L.take (i + 1)) = kL k (L.take i) + 4 + 2 * ((L.getD i Lk0).ws.length : Int) := by
 have e3 : L.take (i + 1) = L.take i ++ [L.getD i Lk0] := by rw [List.take_add_one]; simp [h]
 rw [e3, kL_snoc]
noncomputable def mLk (y : Int) (m : Nat) : Lk := ⟨Mt y, y + 1, y + 1 + 1, y + 1 + 1 + 1, MW (y + 1 + 1 + 1 + 1) m⟩
noncomputable def ML (k : Int) (L : List Lk) : List Lk := (List.range L.length).map fun i => mLk (kL k (L.take i)) (L.getD i Lk0).ws.length
theorem ML_len (k : Int) (L : List Lk) : (ML k L).length = L.length := by simp [ML]
theorem ML_get {k : Int} {L : List Lk} {i : Nat} (h : i < L.length) : (ML k L).getD i Lk0 = mLk (kL k (L.take i)) (L.getD i Lk0).ws.length := by simp [ML, List.getD_eq_getElem?_getD, h]
theorem mixL {k : Int} {L : List Lk} {i j : Nat} (hi : i ≤ L.length) : (mix (ML k L) L i).getD j Lk0 = if j < i then (ML k L).getD j Lk0 else L.getD j Lk0 := mix_get Lk0 (ML_len k L) hi
open Go.V
set_option linter.unusedVariables false
set_option linter.unusedSimpArgs false
set_option maxRecDepth 20000
set_option maxHeartbeats 4000000
open Go.V
set_option linter.unusedVariables false
set_option linter.unusedSimpArgs false
set_option maxRecDepth 20000
set_option maxHeartbeats 4000000
theorem o90 (fr : Bool) (L : List Sn) (hL : L.length ≤ 1048576) {h : Heap} {n : Nat} : V.Open En 90 [.sl fr true (L.map Sn.T)] h n (.view (n + 1) 0 L.length) [(n + 1, some ⟨L.map Sn.V, 6, 115⟩)] (n + 2) := by
 refine V.Open.of_wp Try.func90 rfl kb ?_
 refine A2 (A0 (AA j5 (A3 (A1 (A2 (A2 (A0 (I8 j5 (rnil (c := false) j6 (A3 (A1 (wF rfl ?_))))))))))))
 refine B0 (A1 (A2 (A0 (S8 (es := []) j4 kz kb rfl rfl j3 (I8 j5 ?_)))))
 (apply rap (s' := 48) rfl rfl; exact Q0; exact j2; rfl; exact j2; exact kz; rfl; exact (lenSnF fr L); (simp only [List.length_map]; omega); (simp only [List.length_map]; omega); exact j3)
 refine S6 j5 (A3 (A1 (A9 ?_)))
 exact E7 rfl (congrArg (V.view (n + 1) 0) (by simp)) (K8 (by
  intro j hj
  simp only [List.map_cons, List.map_nil, List.mem_cons, List.not_mem_nil, or_false] at hj
  rcases hj with rfl <;> (simp (disch := omega) only [↓app0, ↓appC, ↓updS, ↓updN, ↓hpS, ↓hpN]) <;> first | rfl | (exact congrArg (fun z => some (Blk.mk z 6 115)) (rowsSnV fr L))) (fun j hj hn => by
  simp only [List.map_cons, List.map_nil, List.mem_cons, List.not_mem_nil, or_false, not_or] at hn
  (simp (disch := omega) only [↓app0, ↓appC, ↓updS, ↓updN, ↓hpS, ↓hpN]) <;> rfl)) (Nat.le_refl _)
theorem o91 (fr : Bool) (L : List Wt) (hL : L.length ≤ 1048576) {h : Heap} {n : Nat} : V.Open En 91 [.sl fr true (L.map wtT)] h n (.view (n + 1) 0 L.length) [(n + 1, some ⟨L.map wtV, 2, 123⟩)] (n + 2) := by
 refine V.Open.of_wp Try.func91 rfl kb ?_
 refine A2 (A0 (AA j5 (A3 (A1 (A2 (A2 (A0 (I8 j5 (rnil (c := false) j6 (A3 (A1 (wF rfl ?_))))))))))))
 refine B0 (A1 (A2 (A0 (S8 (es := []) j4 kz kb rfl rfl j3 (I8 j5 ?_)))))
 (apply rap (s' := 16) rfl rfl; exact Q0; exact j2; rfl; exact j2; exact kz; rfl; exact (lenWtF fr L); (simp only [List.length_map]; omega); (simp only [List.length_map]; omega); exact j3)
 refine S6 j5 (A3 (A1 (A9 ?_)))
 exact E7 rfl (congrArg (V.view (n + 1) 0) (by simp)) (K8 (by
  intro j hj
  simp only [List.map_cons, List.map_nil, List.mem_cons, List.not_mem_nil, or_false] at hj
  rcases hj with rfl <;> (simp (disch := omega) only [↓app0, ↓appC, ↓updS, ↓updN, ↓hpS, ↓hpN]) <;> first | rfl | (exact congrArg (fun z => some (Blk.mk z 2 123)) (rowsWtV fr L))) (fun j hj hn => by
  simp only [List.map_cons, List.map_nil, List.mem_cons, List.not_mem_nil, or_false, not_or] at hn
  (simp (disch := omega) only [↓app0, ↓appC, ↓updS, ↓updN, ↓hpS, ↓hpN]) <;> rfl)) (Nat.le_refl _)
theorem flatSn (L : List Sn) {k : Nat} : ∀ id b, app [(k, some (Blk.mk (L.map Sn.V) 6 115))] (fun _ => none) id = some b → ∀ e ∈ b.es, ∀ x ∈ e, x.flat = true := by
 intro id b hb e he x hx
 have : b = Blk.mk (L.map Sn.V) 6 115 := by
  simp only [app] at hb
  by_cases h : id = k
  ·subst h; rw [upd_same] at hb; exact (Option.some.inj hb).symm
  ·rw [B8 _ _ h] at hb; cases hb
 subst this
 obtain ⟨s, _, rfl⟩ := List.mem_map.1 he
 simp only [Sn.V, List.mem_cons, List.not_mem_nil, or_false] at hx
 rcases hx with rfl | rfl | rfl | rfl | rfl | rfl <;> rfl
theorem rgSnoc (w : Nat → Nat) (L : List Lk) (i : Nat) : (List.range i).map (rwV w L) ++ [rwV w L i] = (List.range (i + 1)).map (rwV w L) := by
 rw [List.range_succ, List.map_append]; rfl
open Go.V
set_option linter.unusedVariables false
set_option linter.unusedSimpArgs false
set_option maxRecDepth 20000
set_option maxHeartbeats 4000000
theorem rgSnoc2 (w : Nat → Nat) (L : List Lk) (i : Nat) : ((List.range i).map (rwV w L)).drop 0 ++ [rwV w L i] = (List.range (i + 1)).map (rwV w L) := rgSnoc w L i
open Go.V
set_option linter.unusedVariables false
set_option linter.unusedSimpArgs false
set_option maxRecDepth 20000
set_option maxHeartbeats 4000000
noncomputable def lAt (t : Tb) (s : ByteArray) : Lk × Int := if s.size > 65536 then (Lk0, 2) else if ¬ t.OK then (Lk0, 1) else if ¬ hit s t.lk then (Lk0, 5) else (t.lk.getD (pos s t.lk) Lk0, 0)
theorem OKw {t : Tb} (h : t.OK) {i : Nat} (hi : i < t.lk.length) : (t.lk.getD i Lk0).ws.length ≤ 4 := (h.2.2.2.2.1 i hi).1.2.2.2.2.1
theorem fix_hit {s : ByteArray} {L : List Lk} (h : hit s L) : fix s L = (pos s L : Int) := if_pos h
theorem fix_no {s : ByteArray} {L : List Lk} (h : ¬ hit s L) : fix s L = -1 := if_neg h
open Go.V
set_option linter.unusedVariables false
set_option linter.unusedSimpArgs false
set_option maxRecDepth 20000
set_option maxHeartbeats 4000000
open Go.V
set_option linter.unusedVariables false
set_option linter.unusedSimpArgs false
set_option maxRecDepth 20000
set_option maxHeartbeats 4000000
open Go.V
set_option linter.unusedVariables false
set_option linter.unusedSimpArgs false
set_option maxRecDepth 20000
set_option maxHeartbeats 4000000
def gone (tm : Int) (l : Lk) : Prop := l.hd ≠ -1 ∧ l.ex ≤ tm
instance (tm : Int) (l : Lk) : Decidable (gone tm l) := by unfold gone; infer_instance
def exN (tm nx : Int) (l : Lk) : Int := if gone tm l ∧ l.ws ≠ [] then nx + 1 else nx
def exF (tm nx : Int) (l : Lk) : Lk := if gone tm l then (match l.ws with | [] => ⟨l.nm, l.tk, -1, 0, []⟩ | w :: r => ⟨l.nm, nx, w.1, tm + w.2, r⟩) else l
def exP (tm : Int) (l : Lk) : List (List V) := if gone tm l then (l.ws.take 1).map wtV else []
def nxL (tm nx : Int) : List Lk → Int
 | [] => nx
 | l :: r => nxL tm (exN tm nx l) r
theorem nxL_snoc (tm nx : Int) : ∀ (L : List Lk) (l : Lk), nxL tm nx (L ++ [l]) = exN tm (nxL tm nx L) l
 | [], l => rfl
 | a :: r, l => nxL_snoc tm (exN tm nx a) r l
theorem I1 {tm nx : Int} {L : List Lk} {i : Nat} (h : i < L.length) : nxL tm nx (L.take (i + 1)) = exN tm (nxL tm nx (L.take i)) (L.getD i Lk0) := by
 have e3 : L.take (i + 1) = L.take i ++ [L.getD i Lk0] := by rw [List.take_add_one]; simp [h]
 rw [e3, nxL_snoc]
def exL (tm nx : Int) (L : List Lk) : List Lk := (List.range L.length).map fun i => exF tm (nxL tm nx (L.take i)) (L.getD i Lk0)
theorem N3 (tm nx : Int) (L : List Lk) : (exL tm nx L).length = L.length := by simp [exL]
theorem L2 {tm nx : Int} {L : List Lk} {i : Nat} (h : i < L.length) : (exL tm nx L).getD i Lk0 = exF tm (nxL tm nx (L.take i)) (L.getD i Lk0) := by simp [exL, List.getD_eq_getElem?_getD, h]
def exT (t : Tb) (now : Int) : Tb := ⟨max t.tm now, nxL (max t.tm now) t.nx t.lk, exL (max t.tm now) t.nx t.lk, t.sn⟩
def rwP (w : Nat → Nat) (P : Nat → List (List V)) (L : List Lk) (i : Nat) : List V := (L.getD i Lk0).V (.view (w i) (P i).length (L.getD i Lk0).ws.length)
def lkP (w : Nat → Nat) (P : Nat → List (List V)) (L : List Lk) : List (List V) := (List.range L.length).map (rwP w P L)
def wsP (P : Nat → List (List V)) (L : List Lk) (i : Nat) : Option Blk := some ⟨P i ++ (L.getD i Lk0).ws.map wtV, 2, 123⟩
def P0 : Nat → List (List V) := fun _ => []
def mixR (A B : Nat → List V) (m i : Nat) : List (List V) := (List.range m).map fun j => if j < i then A j else B j
theorem AZ (A B : Nat → List V) (m i : Nat) : (mixR A B m i).length = m := by simp [mixR]
theorem mixR_get {A B : Nat → List V} {m i j : Nat} (h : j < m) : (mixR A B m i)[j]? = some (if j < i then A j else B j) := by simp [mixR, h]
theorem mixR_same {A B : Nat → List V} {m i : Nat} (e : i < m → A i = B i) : mixR A B m i = mixR A B m (i + 1) := by
 unfold mixR
 refine List.map_congr_left fun j hj => ?_
 have := List.mem_range.1 hj
 by_cases h3 : j < i
 ·rw [if_pos h3, if_pos (by omega)]
 ·rw [if_neg h3]
  by_cases h4 : j = i
  ·subst h4; rw [if_pos (by omega), e this]
  ·rw [if_neg (by omega)]
theorem o125 (nm : ByteArray) (tk hd ex tm nx c le : Int) (W Sl Ss : V) (hW : W.cell = true) (ht : 0 ≤ tm ∧ tm ≤ 1000000000) (hn : 0 ≤ nx ∧ nx ≤ 1000000) (hle : 0 ≤ le ∧ le ≤ 1000) {id lb j : Nat} {R : List (List V)} {h : Heap} {n : Nat} (hid : id < n) (hlb : lb < n) (hne : lb ≠ id) (hh : h id = some ⟨[[.int .i64 tm, .int .i64 nx, Sl, Ss]], 4, 35⟩) (hj : j < R.length) (k1 : h lb = some ⟨R, 5, 29⟩) (k2 : R[j]? = some [.str nm, .int .i64 tk, .int .i64 hd, .int .i64 ex, W]) : V.Open En 125 [.ptr id 0 0, .ptr lb j 0, .int .i64 c, .int .i64 le] h n (.tup []) [(lb, some ⟨R.set j [.str nm, .int .i64 nx, .int .i64 c, .int .i64 (tm + le), W], 5, 29⟩), (id, some ⟨[[.int .i64 tm, .int .i64 (nx + 1), Sl, Ss]], 4, 35⟩)] n := by
 refine V.Open.of_wp Try.func125 rfl kb ?_
 refine A2 (C2 [0, 0, 0, 0, 0, 16, 48, 112, 0, 256, 768, 1792, 0, 7936, 4089, 20473, 53241, 118779, 249851, 511995, 1048575, 2097151, 4194303] rfl (by decide +kernel) ?_)
 refine G6 j5 (G6 j5 (G6 j5 (I0 j5 (G6 j5 (G7 (v := .ptr _ _ _) j6 (D6 (off := 1) (s := 1) (r := false) j3 kz j3 ?_))))))
 (apply E1 (v := .int _ _) j2; exact Q0; exact Q9; exact j5)
 refine G6 j5 (G7 (v := .ptr _ _ _) j6 (D6 (off := 0) (s := 1) (r := false) j3 kz j3 ?_))
 (apply E1 (v := .int _ _) j2; exact Q0; exact Q9; exact j5)
 refine I0 j5 (V3 j3 ?_ ?_ j3 ?_)
 ·exact Q4
 ·exact Q4
 refine G7 (v := .ptr _ _ _) j6 (D6 (off := 2) (s := 1) (r := false) j3 kz j3 ?_)
 (apply dst (u := .int _ _) rfl rfl rfl; exact Q0; exact Q9; rfl; rfl; rfl; rfl; exact kb; rfl; rfl; rfl)
 refine G7 (v := .ptr _ _ _) j6 (D6 (off := 1) (s := 1) (r := false) j3 kz j3 ?_)
 (apply dst (u := .int _ _) rfl rfl rfl; exact Q0; exact Q9; rfl; rfl; rfl; rfl; exact kb; rfl; rfl; rfl)
 refine G7 (v := .ptr _ _ _) j6 (D6 (off := 3) (s := 1) (r := false) j3 kz j3 ?_)
 (apply dst (u := .int _ _) rfl rfl rfl; exact Q0; exact Q9; rfl; rfl; rfl; rfl; exact kb; rfl; rfl; rfl)
 refine B1 23 [3, 0, 0, 3, 0, 0, 3, 0, 0, 0, 0, 1, 0, 0, 0, 1, 0, 0, 0, 0, 0, 0, 0] [] j2 (by decide +kernel) trivial ?_
 refine A1 (A0 (D9 j5 (F6 (v := .ptr _ _ _) j6 (C1 (off := 1) (s := 1) (r := false) j3 kz j3 ?_))))
 (apply C5 (v := .int _ _) j2; exact Q0; exact Q9; exact j5)
 refine C3 j3 ?_ ?_ j3 ?_
 ·exact Q4
 ·exact Q4
 refine F6 (v := .ptr _ _ _) j6 (C1 (off := 1) (s := 1) (r := false) j3 kz j3 ?_)
 (apply D4 (u := .int _ _) j3; exact Q0; exact Q9; rfl; rfl; rfl; rfl; exact kb; rfl; exact j2)
 refine A3 ?_
 exact E7 rfl rfl (K8 (by
  intro jx hjx
  simp only [List.map_cons, List.map_nil, List.mem_cons, List.not_mem_nil, or_false] at hjx
  rcases hjx with rfl | rfl <;> (simp (disch := omega) only [↓appC, ↓updN, ↓updS, ↓app0]) <;> first | rfl | (focus (simp only [List.set_set]; done)) | (simp only [List.set_set]; rfl)) (fun jx hjx hn => by
  simp only [List.map_cons, List.map_nil, List.mem_cons, List.not_mem_nil, or_false, not_or] at hn
  (simp (disch := omega) only [↓appC, ↓updN, ↓updS, ↓app0]))) (Nat.le_refl _)
theorem o96a (nm : ByteArray) (tk hd ex tm nx : Int) (wb off : Nat) (Sl Ss : V) {id lb j : Nat} {R : List (List V)} {h : Heap} {n : Nat} (hid : id < n) (hlb : lb < n) (hne : lb ≠ id) (hh : h id = some ⟨[[.int .i64 tm, .int .i64 nx, Sl, Ss]], 4, 35⟩) (hj : j < R.length) (k1 : h lb = some ⟨R, 5, 29⟩) (k2 : R[j]? = some [.str nm, .int .i64 tk, .int .i64 hd, .int .i64 ex, .view wb off 0]) : V.Open En 96 [.ptr id 0 0, .ptr lb j 0] h n (.tup []) [(lb, some ⟨R.set j [.str nm, .int .i64 tk, .int .i64 (-1), .int .i64 0, .view wb off 0], 5, 29⟩), (id, some ⟨[[.int .i64 tm, .int .i64 nx, Sl, Ss]], 4, 35⟩)] (n + 1) := by
 refine V.Open.of_wp Try.func96 rfl kb ?_
 refine A2 (A2 (A0 (D9 j5 (F6 (v := .ptr _ _ _) j6 (C1 (off := 4) (s := 1) (r := false) j3 kz j3 ?_)))))
 (apply C5 (v := .view _ _ _) j2; exact Q0; exact Q9; exact j5)
 refine H0 rfl rfl rfl j3 ?_
 refine H5 j6 ?_ (fun h => absurd (rfl) h)
 intro h0_5
 refine A3 (A1 (wT rfl (A2 (A0 (D9 j5 (D9 j5 (F6 (v := .ptr _ _ _) j6 (C1 (off := 2) (s := 1) (r := false) j3 kz j3 ?_))))))))
 (apply D4 (u := .int _ _) j3; exact Q0; exact Q9; rfl; rfl; rfl; rfl; exact kb; rfl; exact j2)
 refine F6 (v := .ptr _ _ _) j6 (C1 (off := 3) (s := 1) (r := false) j3 kz j3 ?_)
 (apply D4 (u := .int _ _) j3; exact Q0; exact Q9; rfl; rfl; rfl; rfl; exact kb; rfl; exact j2)
 refine A3 (A1 (A9 (B2 ?_)))
 exact E7 rfl rfl (K8 (by
  intro jx hjx
  simp only [List.map_cons, List.map_nil, List.mem_cons, List.not_mem_nil, or_false] at hjx
  rcases hjx with rfl | rfl <;> (simp (disch := omega) only [↓appC, ↓updN, ↓updS, ↓app0]) <;> first | rfl | exact hh | (focus (simp only [List.set_set]; done)) | (simp only [List.set_set]; rfl)) (fun jx hjx hn => by
  simp only [List.map_cons, List.map_nil, List.mem_cons, List.not_mem_nil, or_false, not_or] at hn
  (simp (disch := omega) only [↓appC, ↓updN, ↓updS, ↓app0]))) (Nat.le_succ _)
theorem o96b (nm : ByteArray) (tk hd ex tm nx c le : Int) (wb off m : Nat) (Sl Ss : V) (Wb : List (List V)) (ht : 0 ≤ tm ∧ tm ≤ 1000000000) (hn : 0 ≤ nx ∧ nx ≤ 1000000) (hle : 0 ≤ le ∧ le ≤ 1000) {id lb j : Nat} {R : List (List V)} {h : Heap} {n : Nat} (hid : id < n) (hlb : lb < n) (hwb : wb < n) (hne : lb ≠ id) (hwl : wb ≠ lb) (hwi : wb ≠ id) (hh : h id = some ⟨[[.int .i64 tm, .int .i64 nx, Sl, Ss]], 4, 35⟩) (hj : j < R.length) (k1 : h lb = some ⟨R, 5, 29⟩) (k2 : R[j]? = some [.str nm, .int .i64 tk, .int .i64 hd, .int .i64 ex, .view wb off (m + 1)]) (k3 : h wb = some ⟨Wb, 2, 123⟩) (k4 : Wb[off + 0]? = some [.int .i64 c, .int .i64 le]) (k5 : off + (m + 1) ≤ Wb.length) : V.Open En 96 [.ptr id 0 0, .ptr lb j 0] h n (.tup []) [(lb, some ⟨R.set j [.str nm, .int .i64 nx, .int .i64 c, .int .i64 (tm + le), .view wb (off + 1) m], 5, 29⟩), (id, some ⟨[[.int .i64 tm, .int .i64 (nx + 1), Sl, Ss]], 4, 35⟩)] (n + 1) := by
 refine V.Open.of_wp Try.func96 rfl kb ?_
 refine A2 (A2 (A0 (D9 j5 (F6 (v := .ptr _ _ _) j6 (C1 (off := 4) (s := 1) (r := false) j3 kz j3 ?_)))))
 (apply C5 (v := .view _ _ _) j2; exact Q0; exact Q9; exact j5)
 refine H0 rfl rfl rfl j3 ?_
 refine H5 j6 (fun h => absurd h ((by show ¬ (((m + 1 : Nat) : Int) = 0); omega))) ?_
 intro h0_5
 refine A3 (A1 (wF rfl (B0 (A1 (A2 (A0 (D9 j5 (F6 (v := .ptr _ _ _) j6 (C1 (off := 4) (s := 1) (r := false) j3 kz j3 ?_)))))))))
 (apply C5 (v := .view _ _ _) j2; exact Q0; exact Q9; exact j5)
 (apply T8 j4; exact Q0; rfl; exact Q4; exact Q4; exact j3)
 (apply F9 (vs := [.int _ _, .int _ _]) j2; exact Q0; exact k4; rfl; exact kb; rfl; exact j3)
 refine H3 j6 ?_
 (apply D4 (u := .agg [.int _ _, .int _ _]) j3; exact Q0; exact Q9; rfl; rfl; rfl; rfl; exact kb; rfl; exact j2)
 refine A3 (A1 (A2 (A0 (D9 j5 (D9 j5 (F6 (v := .ptr _ _ _) j6 (C1 (off := 4) (s := 1) (r := false) j3 kz j3 ?_)))))))
 (apply C5 (v := .view _ _ _) j2; exact Q0; exact Q9; exact j5)
 (apply rslv j3; exact Q0; exact j3; exact Q4; exact Q4; exact Q4; exact j3)
 refine F6 (v := .ptr _ _ _) j6 (C1 (off := 4) (s := 1) (r := false) j3 kz j3 ?_)
 (apply D4 (u := .view _ _ _) j3; exact Q0; exact Q9; rfl; rfl; rfl; rfl; exact kb; rfl; exact j2)
 refine A3 (A1 (A0 (D9 j5 (D9 j5 (C1 (off := 0) (s := 1) (r := false) j3 kz j3 ?_)))))
 (apply C5 (v := .int _ _) j2; exact Q0; exact Q9; exact j5)
 refine C1 (off := 1) (s := 1) (r := false) j3 kz j3 ?_
 (apply C5 (v := .int _ _) j2; exact Q0; exact Q9; exact j5)
 refine I9 (o125 nm tk hd ex tm nx c le (.view wb (off + 1) m) Sl Ss rfl ht hn hle (id := id) (lb := lb) (j := j) (R := R.set j [.str nm, .int .i64 tk, .int .i64 hd, .int .i64 ex, .view wb (off + 1) m]) (by omega) (by omega) hne (by exact Q0) (by rw [List.length_set]; exact hj) (by exact Q0) (List.getElem?_set_self hj)) rfl rfl rfl rfl rfl rfl ?_
 refine A3 ?_
 exact E7 rfl rfl (K8 (by
  intro jx hjx
  simp only [List.map_cons, List.map_nil, List.mem_cons, List.not_mem_nil, or_false] at hjx
  rcases hjx with rfl | rfl <;> (simp (disch := omega) only [↓appC, ↓updN, ↓updS, ↓app0]) <;> first | rfl | (focus (simp only [List.set_set]; done)) | (simp only [List.set_set]; rfl)) (fun jx hjx hn => by
  simp only [List.map_cons, List.map_nil, List.mem_cons, List.not_mem_nil, or_false, not_or] at hn
  (simp (disch := omega) only [↓appC, ↓updN, ↓updS, ↓app0]))) (by omega)
open Go.V
set_option linter.unusedVariables false
set_option linter.unusedSimpArgs false
set_option maxRecDepth 20000
set_option maxHeartbeats 4000000
theorem exN_bd {tm nx : Int} {l : Lk} : nx ≤ exN tm nx l ∧ exN tm nx l ≤ nx + 1 := by unfold exN; split <;> omega
open Go.V
set_option linter.unusedVariables false
set_option linter.unusedSimpArgs false
set_option maxRecDepth 20000
set_option maxHeartbeats 4000000
theorem snapWsP {h : Heap} {ids : List Nat} {r : Bool} {id m o : Nat} {Pr : List (List V)} {L : List Wt} (hid : id ∈ ids) (hb : h id = some ⟨Pr ++ L.map wtV, 2, 123⟩) (ho : o = Pr.length) (hm : m = L.length) : Snap h ids r (.view id o m) (.sl true (L.map wtT)) := by
 subst hm ho
 have e : ((Pr ++ L.map wtV).drop Pr.length).take L.length = L.map wtV := by rw [List.drop_left, List.take_of_length_le (by simp)]
 refine .view id _ _ _ _ hid hb (by simp) (by simp) (fun i x y h1 h2 => ?_) (fun i j x y h1 h2 => ?_)
 ·dsimp only at h1
  rw [e] at h1
  by_cases hi : i < L.length
  ·rw [D8 wtV (0, 0) hi] at h1; rw [D8 wtT (0, 0) hi] at h2
   cases h1; cases h2; rfl
  ·rw [List.getElem?_eq_none (by simpa using Nat.not_lt.1 hi)] at h1; cases h1
 ·dsimp only at h1
  rw [e] at h1
  unfold get2 at h1 h2
  by_cases hi : i < L.length
  ·rw [D8 wtV (0, 0) hi] at h1; rw [D8 wtT (0, 0) hi] at h2
   match j with
   | 0 => cases h1; cases h2; exact .int _ _
   | 1 => cases h1; cases h2; exact .int _ _
   | j + 2 => exact absurd h1 nofun
  ·rw [List.getElem?_eq_none (by simpa using Nat.not_lt.1 hi)] at h1; exact absurd h1 nofun
theorem getMP {α : Type} (f : α → List V) (d : α) {Pr : List (List V)} {X : List α} {i : Nat} (h : i < X.length) : (Pr ++ X.map f)[Pr.length + i]? = some (f (X.getD i d)) := by
 rw [List.getElem?_append_right (by omega), Nat.add_sub_cancel_left]; exact D8 f d h
open Go.V
set_option linter.unusedVariables false
set_option linter.unusedSimpArgs false
set_option maxRecDepth 20000
set_option maxHeartbeats 4000000
def T0 : Tb := ⟨0, 0, [], []⟩
noncomputable def exA (t : Tb) (now : Int) : Tb × Int := if ¬ t.OK then (T0, 1) else if ¬ (0 ≤ now ∧ now ≤ 1000000000) then (T0, 4) else if t.nx > 999000 then (t, 13) else (exT t now, 0)
theorem o60n (tm nx now : Int) (Ss : V) {id : Nat} {h : Heap} {n : Nat} (hid : id < n) (hh : h id = some ⟨[[.int .i64 tm, .int .i64 nx, .nsl, Ss]], 4, 35⟩) : V.Open En 60 [.ptr id 0 0, .int .i64 now] h n (.tup []) [(id, some ⟨[[.int .i64 (max tm now), .int .i64 nx, .nsl, Ss]], 4, 35⟩)] n := by
 refine V.Open.of_wp Try.func60 rfl kb ?_
 refine A2 (A0 (D9 j5 (D9 j5 (F6 (v := .ptr _ _ _) j6 (C1 (off := 0) (s := 1) (r := false) j3 kz j3 ?_)))))
 (apply C5 (v := .int _ _) j2; exact Q0; rfl; exact j5)
 refine B6 j5 (rmax rfl j5 (F6 (v := .ptr _ _ _) j6 (C1 (off := 0) (s := 1) (r := false) j3 kz j3 ?_)))
 (apply D4 (u := .int _ _) j3; exact Q0; rfl; rfl; rfl; rfl; rfl; exact kb; rfl; exact j2)
 refine A3 (A1 (A2 (A0 (D9 j5 (F6 (v := .ptr _ _ _) j6 (C1 (off := 2) (s := 1) (r := false) j3 kz j3 ?_))))))
 (apply C5 (v := .nsl) j2; exact Q0; rfl; exact j5)
 refine H0 rfl rfl rfl j3 (B6 j5 (A3 (A1 (B3 (F0 (E8 (A2 (A0 ?_))))))))
 refine I6 j6 (fun h => absurd h ((by show ¬ ((0 : Int) < 0); decide))) ?_
 intro h2_0
 refine A3 (A1 (A2 (wF rfl (E5 (E6 (D7 (C8 ?_)))))))
 exact E7 rfl rfl (K8 (by
  intro jx hjx
  simp only [List.map_cons, List.map_nil, List.mem_cons, List.not_mem_nil, or_false] at hjx
  rcases hjx with rfl <;> (simp (disch := omega) only [↓appC, ↓updN, ↓updS, ↓app0]) <;> rfl) (fun jx hjx hn => by
  simp only [List.map_cons, List.map_nil, List.mem_cons, List.not_mem_nil, or_false, not_or] at hn
  (simp (disch := omega) only [↓appC, ↓updN, ↓updS, ↓app0]) <;> rfl)) (Nat.le_refl _)
theorem s59 (x : Int) : Pure En 59 [.one (.int .i64 x)] [.one (.bool (decide (0 ≤ x ∧ x ≤ 1000000000)))] := by
 refine Pure.of_wp Try.func59 rfl kb ?_
 refine A2 (A0 (C6 j5 (A3 (A1 (A2 (A0 (B6 j5 ?_)))))))
 refine F3 (Z9 _ _ _) rfl j5 ?_ ?_ <;> intro h1_1
 ·refine C6 j5 (A3 (A1 (A9 ?_)))
  first | exact D2 rfl h1_1 | exact C9 rfl h1_1
 ·refine C6 j5 (A3 (A1 (A9 ?_)))
  first | exact D2 rfl h1_1 | exact C9 rfl h1_1
open Go.V
set_option linter.unusedVariables false
set_option linter.unusedSimpArgs false
set_option maxRecDepth 20000
set_option maxHeartbeats 4000000
open Go.V
set_option linter.unusedVariables false
set_option linter.unusedSimpArgs false
set_option maxRecDepth 20000
set_option maxHeartbeats 4000000
theorem wlG {E : Env} {sz : Nat} {k : Code} {t : Nat → V} {h : Heap} {n : Nat} {Q : Post} (w : ∀ g, g = h → WL E sz k t g n Q) : WL E sz k t h n Q := w h rfl
theorem lenWtR (r : List Wt) : ∀ c ∈ r.map wtV, c.length = 2 := fun c hc => by
 obtain ⟨a, _, rfl⟩ := List.mem_map.1 hc; rfl
theorem lenR (r : List Wt) : 0 + (r.map wtV).length = r.length := by simp
theorem s132 (a b : Int) (ha : 0 ≤ a ∧ a ≤ 1000000000) (hb : 0 ≤ b ∧ b ≤ 1000) : Pure En 132 [.one (.int .i64 a), .one (.int .i64 b)] [.one (.int .i64 (a + b))] := by
 refine Pure.of_wp Try.func132 rfl kb ?_
 refine A2 (A0 (D0 j5 (A3 (A1 (A2 (A0 (B6 j5 (rmax rfl j5 (D0 j5 (A3 (A1 (A2 ?_))))))))))))
 refine A0 (B6 j5 (rmax rfl j5 (D0 j5 (A3 (A1 (A2 (A2 (A0 (B6 j5 (B6 j5 (S5 j3 ?_ ?_ j3 ?_)))))))))))
 ·exact H1
 ·exact H1
 refine V4 j6 (fun h => absurd h (by omega)) ?_
 intro h3_3
 refine A3 (A1 (wF rfl (B0 (A1 (A2 (A0 (B6 j5 (B6 j5 (C3 j3 ?_ ?_ j3 ?_)))))))))
 ·exact H1
 ·exact H1
 refine D0 j5 (A3 (A1 (A9 ?_)))
 exact finE j2 (by rw [show max a 0 = a by omega, show max b 0 = b by omega])
theorem o124 (nm : ByteArray) (tk hd ex tm nx c le : Int) (W Ss : V) (hW : W.cell = true) (ht : 0 ≤ tm ∧ tm ≤ 1000000000) (hn : 0 ≤ nx ∧ nx ≤ 999999) (hle : 0 ≤ le ∧ le ≤ 1000) {id lb j len : Nat} {R : List (List V)} {h : Heap} {n : Nat} (hid : id < n) (hlb : lb < n) (hne : lb ≠ id) (hh : h id = some ⟨[[.int .i64 tm, .int .i64 nx, .view lb 0 len, Ss]], 4, 35⟩) (hjl : j < len) (hj : 0 + j < R.length) (k1 : h lb = some ⟨R, 5, 29⟩) (k2 : R[0 + j]? = some [.str nm, .int .i64 tk, .int .i64 hd, .int .i64 ex, W]) : V.Open En 124 [.ptr id 0 0, .int .i64 j, .int .i64 c, .int .i64 le] h n (.tup []) [(lb, some ⟨R.set (0 + j) [.str nm, .int .i64 nx, .int .i64 c, .int .i64 (tm + le), W], 5, 29⟩), (id, some ⟨[[.int .i64 tm, .int .i64 (nx + 1), .view lb 0 len, Ss]], 4, 35⟩)] n := by
 refine V.Open.of_wp Try.func124 rfl kb ?_
 refine A2 (A0 (D9 j5 (F6 (v := .ptr _ _ _) j6 (C1 (off := 2) (s := 1) (r := false) j3 kz j3 ?_))))
 (apply C5 (v := .view _ _ _) j2; exact Q0; exact Q9; exact j5)
 refine B6 j5 (B6 j5 ?_)
 (apply T8 j4; exact Q0; rfl; exact Q4; exact Q4; exact j3)
 refine C1 (off := 2) (s := 1) (r := false) j3 kz j3 ?_
 (apply D4 (u := .int _ _) j3; exact Q0; exact Q9; rfl; rfl; rfl; rfl; exact kb; rfl; exact j2)
 refine A3 (A1 (A2 (C2 [0, 1, 3, 7, 0, 0, 32, 96, 224, 511, 1023, 2047] rfl (by decide +kernel) ?_)))
 refine G6 j5 (G7 (v := .ptr _ _ _) j6 (D6 (off := 2) (s := 1) (r := false) j3 kz j3 ?_))
 (apply E1 (v := .view _ _ _) j2; exact Q0; exact Q9; exact j5)
 refine I0 j5 (G6 j5 (G7 (v := .ptr _ _ _) j6 (D6 (off := 1) (s := 1) (r := false) j3 kz j3 ?_)))
 (apply E1 (v := .int _ _) j2; exact Q0; exact Q9; exact j5)
 (apply dixv j4; exact Q0; rfl; exact Q4; exact Q4; exact j3)
 refine D6 (off := 1) (s := 1) (r := false) j3 kz j3 ?_
 (apply dst (u := .int _ _) rfl rfl rfl; exact Q0; exact Q9; rfl; rfl; rfl; rfl; exact kb; rfl; rfl; rfl)
 refine B1 12 [3, 0, 1, 1, 0, 0, 0, 0, 1, 0, 0, 0] [] j2 (by decide +kernel) trivial ?_
 refine A1 (A2 (C2 [0, 1, 3, 7, 0, 0, 32, 96, 224, 0, 992, 2047, 4095, 8191] rfl (by decide +kernel) ?_))
 refine G6 j5 (G7 (v := .ptr _ _ _) j6 (D6 (off := 2) (s := 1) (r := false) j3 kz j3 ?_))
 (apply E1 (v := .view _ _ _) j2; exact Q0; exact Q9; exact j5)
 refine I0 j5 (G6 j5 (G7 (v := .ptr _ _ _) j6 (D6 (off := 0) (s := 1) (r := false) j3 kz j3 ?_)))
 (apply E1 (v := .int _ _) j2; exact Q0; exact Q9; exact j5)
 refine I0 j5 (dcl (s132 tm le ht hle) rfl j5 ?_)
 (apply dixv j4; exact Q0; rfl; exact Q4; exact Q4; exact j3)
 refine D6 (off := 3) (s := 1) (r := false) j3 kz j3 ?_
 (apply dst (u := .int _ _) rfl rfl rfl; exact Q0; exact Q9; rfl; rfl; rfl; rfl; exact kb; rfl; rfl; rfl)
 refine B1 14 [3, 0, 1, 0, 0, 1, 0, 0, 0, 0, 1, 0, 0, 0] [] j2 (by decide +kernel) trivial ?_
 refine A1 (A0 (D9 j5 (D9 j5 (F6 (v := .ptr _ _ _) j6 (C1 (off := 1) (s := 1) (r := false) j3 kz j3 ?_)))))
 (apply C5 (v := .int _ _) j2; exact Q0; exact Q9; exact j5)
 refine C3 j3 ?_ ?_ j3 ?_
 ·exact Q4
 ·exact Q4
 (refine r0 ((op_min rfl rfl rfl).to (v' := .int .i64 (nx + 1)) (by rw [show min (1000000 : Int) (nx + 1) = nx + 1 by omega])) rfl rfl rfl ?_)
 refine F6 (v := .ptr _ _ _) j6 (C1 (off := 1) (s := 1) (r := false) j3 kz j3 ?_)
 (apply D4 (u := .int _ _) j3; exact Q0; exact Q9; rfl; rfl; rfl; rfl; exact kb; rfl; exact j2)
 refine A3 ?_
 exact E7 rfl rfl (K8 (by
  intro jx hjx
  simp only [List.map_cons, List.map_nil, List.mem_cons, List.not_mem_nil, or_false] at hjx
  rcases hjx with rfl | rfl <;> (simp (disch := omega) only [↓appC, ↓updN, ↓updS, ↓app0]) <;> first | rfl | (focus (simp only [List.set_set]; done)) | (simp only [List.set_set]; rfl)) (fun jx hjx hn => by
  simp only [List.map_cons, List.map_nil, List.mem_cons, List.not_mem_nil, or_false, not_or] at hn
  (simp (disch := omega) only [↓appC, ↓updN, ↓updS, ↓app0]))) (Nat.le_refl _)
end Go.Proofs.Ytknnniaoboaghaa
namespace Go.V
open Go
open Go.RowKit (Below)
set_option linter.unusedVariables false
set_option linter.unusedSimpArgs false
theorem Open.byCap {E : Env} {f : FuncId} {az bs : List V} {id off len : Nat} {h : Heap} {n m : Nat} {v : V} {wr : List (Nat × Option Blk)}
    (H : ∀ c, len ≤ c → Open E f (az ++ .vcap id off len c :: bs) h n v wr m) : Open E f (az ++ .view id off len :: bs) h n v wr m := by
  have h0 := H len (Nat.le_refl _)
  unfold Open at h0 ⊢
  refine ⟨h0.1, fun c vs hg hfr hal har => ?_⟩
  have hi : az.length < vs.size := by rw [← hal]; simp
  have hv : VR c (.view id off len) vs[az.length] := har az.length _ _ (by simp) (by simp [hi])
  generalize hw : vs[az.length] = w at hv
  cases hv with
  | view _ _ _ p o cap hp ho hl hm =>
    have h1 := H cap hl
    unfold Open at h1
    refine h1.2 c vs hg hfr (by rw [← hal]; simp) (fun i x u hx hu => ?_)
    by_cases e : i = az.length
    · subst e
      have hx : (az ++ V.vcap id off len cap :: bs)[az.length]? = some x := hx
      rw [List.getElem?_append_right (Nat.le_refl _), Nat.sub_self, List.getElem?_cons_zero] at hx
      cases hx
      have : vs[az.length]? = some vs[az.length] := by simp [hi]
      rw [this, hw] at hu
      cases hu
      exact .vcap id off len cap p o hp ho hl hm
    · refine har i x u ?_ hu
      by_cases e2 : i < az.length
      · rw [List.getElem?_append_left e2] at hx ⊢; exact hx
      · rw [List.getElem?_append_right (by omega)] at hx ⊢
        obtain ⟨k, hk⟩ : ∃ k, i - az.length = k + 1 := ⟨i - az.length - 1, by omega⟩
        rw [hk, List.getElem?_cons_succ] at hx ⊢
        exact hx
section ops
variable {E : Env} {o : Oper} {t : Nat → V} {h : Heap} {n : Nat}
theorem VR.uncap {c : Cx} {id off len cp : Nat} {w : Value} (hv : VR c (.vcap id off len cp) w) : VR c (.view id off len) w := by
  cases hv with
  | vcap _ _ _ _ p o hp ho hl hm => exact .view id off len p o cp hp ho hl hm
theorem op_cap {x : Operand} {ty e : TypeId} {id off len cp : Nat} (ho : o.op = .call { callee := .builtin .cap, args := #[x], argTypes := #[ty] }) (hx : E.eval t x = .vcap id off len cp) (hu : E.P.underlying ty = some (.slice e)) :
    OpOK E o t h n [] false (.int .i64 cp) [] n :=
  OpOK.value fun c a h2 hx' hg hrd => by
    have g1 := hx' x (by simp [ho, Op.operands, Call.operands])
    rw [hx] at g1
    generalize hw : a.eval x = w at g1
    cases g1 with
    | vcap _ _ _ _ p o' hp hof hl hm =>
      refine ⟨.int .i64 cp, ?_, .int _ _⟩
      simp [execOp, ho, hw, resolve, invoke, builtin, Builtin.cap_, run_underlying hu, goInt]
theorem run_boundsC {P : Program} {w : World} {len cap : Nat} {lo hi : Option Value} {l r : Int} (hl : (lo = none ∧ l = 0) ∨ ∃ k, lo = some (.int k l)) (hr : (hi = none ∧ r = len) ∨ ∃ k, hi = some (.int k r))
    (h0 : 0 ≤ l) (h1 : l ≤ r) (h2 : r ≤ cap) (hc : len ≤ cap) : (Instr.sliceBounds true len cap lo hi none).run P w = .ok (l.toNat, r.toNat, cap) w := by
  have hr0 : 0 ≤ r := by omega
  have hlr : l ≤ (r.toNat : Int) := by omega
  rcases hl with ⟨rfl, rfl⟩ | ⟨k, rfl⟩ <;> rcases hr with ⟨rfl, rfl⟩ | ⟨k', rfl⟩
  · simp [Instr.sliceBounds]
  · simp [Instr.sliceBounds, Instr.sliceBound, asIntOf, hr0, h2]
  · simp [Instr.sliceBounds, Instr.sliceBound, asIntOf, h0, h1]
  · simp [Instr.sliceBounds, Instr.sliceBound, asIntOf, h0, hr0, h2, hlr]
    intro hh; omega
theorem N8 {ty e : TypeId} {x : Operand} {lo hi : Option Operand} {id off len cp sz : Nat} {b : Blk} {l r : Int} (ho : o.op = .slice ty x lo hi none) (hx : E.eval t x = .vcap id off len cp)
    (hs : sliceP E.P ty = some (e, sz)) (hb : h id = some b) (hbz : b.sz = sz) (hl : bndV E t lo 0 = some l) (hr : bndV E t hi len = some r) (h0 : 0 ≤ l) (h1 : l ≤ r) (h2 : r ≤ cp) :
    OpOK E o t h n [id] false (.vcap id (off + l.toNat) (r.toNat - l.toNat) (cp - l.toNat)) [] n :=
  OpOK.value fun c a h2' hx' hg hrd => by
    have g1 := hx' x (by simp [ho, Op.operands])
    rw [hx] at g1
    have gl := N2 hl (fun y hy => hx' y (by simp [ho, Op.operands, hy]))
    have gr := N2 hr (fun y hy => hx' y (by simp [ho, Op.operands, hy]))
    obtain ⟨hu, i, hi', hiz⟩ := H9 hs
    generalize hw : a.eval x = w at g1
    cases g1 with
    | vcap _ _ _ _ p off' hp hof hlc hpm =>
      obtain ⟨cells, fz, q2, _⟩ := hg.cells (by rw [hrd id (by simp)]; exact hb) hp hpm
      have hpz : p.sz = i.size := by rw [q2, hbz, hiz]
      have hrun := run_boundsC (P := E.P) (w := c.w) (len := len) (cap := cp) (lo := lo.map a.eval) (hi := hi.map a.eval) (l := l) (r := r)
        (by rcases gl with ⟨rfl, h⟩ | ⟨y, k, rfl, h⟩
            · exact .inl ⟨rfl, h⟩
            · exact .inr ⟨k, by simp [h]⟩)
        (by rcases gr with ⟨rfl, h⟩ | ⟨y, k, rfl, h⟩
            · exact .inl ⟨rfl, h⟩
            · exact .inr ⟨k, by simp [h]⟩) h0 h1 h2 hlc
      have hlcap : l.toNat ≤ cp := by omega
      refine ⟨.slice (some (if cp = l.toNat then ⟨p.b, off', none⟩ else ⟨p.b, off' + l.toNat * i.size, none⟩)) (r.toNat - l.toNat) (cp - l.toNat), ?_, ?_⟩
      · simp [execOp, ho, hw, Instr.sliceAt, Instr.slice, run_underlying hu, hrun, sizeOf, typeInfo, hi', Addr.add_mid]
        split <;> simp_all
      · split
        · rename_i hc
          exact .vcap _ _ _ _ p _ hp (.inl (by omega)) (by omega)
        · rename_i hc
          refine .vcap _ _ _ _ p _ hp (.inr ?_) (by omega)
          have hcap : ¬ cp = 0 := by omega
          obtain ⟨e1, e2⟩ := hof.resolve_left hcap
          refine ⟨by rw [e1, hpz, Nat.add_mul]; omega, ?_⟩
          have : l.toNat * p.sz + (cp - l.toNat) * p.sz = cp * p.sz := by rw [← Nat.add_mul]; congr 1; omega
          rw [Nat.add_mul]; omega
end ops
def putR (es : List (List V)) (d : Nat) (ys : List (List V)) : List (List V) := es.take d ++ ys ++ es.drop (d + ys.length)
theorem putR_len {es : List (List V)} {d : Nat} {ys : List (List V)} (hd : d ≤ es.length) : (putR es d ys).length = max es.length (d + ys.length) := by
  simp [putR]; omega
theorem putR_get {es : List (List V)} {d : Nat} {ys : List (List V)} (hd : d ≤ es.length) (i : Nat) : (putR es d ys)[i]? = if i < d then es[i]? else if i < d + ys.length then ys[i - d]? else es[i]? := by
  unfold putR
  have e1 : (es.take d).length = d := by simp; omega
  by_cases h1 : i < d
  · rw [if_pos h1, List.append_assoc, List.getElem?_append_left (by omega), List.getElem?_take_of_lt h1]
  · rw [if_neg h1, List.append_assoc, List.getElem?_append_right (by omega), e1]
    by_cases h2 : i < d + ys.length
    · rw [if_pos h2, List.getElem?_append_left (by omega)]
    · rw [if_neg h2, List.getElem?_append_right (by omega), List.getElem?_drop]; congr 1; omega
def Cx.put (c : Cx) (p : Place) (o : Nat) (vs : List Value) : Cx := { c with w := c.w.setCells p.b o vs }
theorem Good.put {E : Env} {c : Cx} {h : Heap} (hg : Good E c h) {id : Nat} {b : Blk} {p : Place} (hb : h id = some b) (hp : c.ρ id = some p) (hpm : p.m = false) {d : Nat} {ys : List (List V)} {news : List Value}
    (hd : d ≤ b.es.length) (hyz : ∀ e ∈ ys, e.length = b.sz) (hnl : news.length = ys.length * b.sz) (hget : ∀ i j x, get2 ys i j = some x → ∃ u, news[i * b.sz + j]? = some u ∧ VR c x u)
    (hone : ∀ u ∈ news, u.oneCell' = true) (hfit : (d + ys.length) * b.sz ≤ p.cap ∨ ys = []) :
    Ext c (c.put p (p.o + d * b.sz) news) ∧ Good E (c.put p (p.o + d * b.sz) news) (upd h id (some ⟨putR b.es d ys, b.sz, b.ty⟩)) := by
  have hx : Ext c (c.put p (p.o + d * b.sz) news) :=
    ⟨rfl, fun i q hq => hq, fun _ h => h, fun k hk => G8 _ _ (fun (e : k = p.b) => hg.sep id b p hb hp (by rw [← e]; exact hk)) _ _ _, L9 _ _ (hg.own id p hp).1 _ _ _ _ (Below.refl _ _)⟩
  refine ⟨hx, ?_⟩
  obtain ⟨cells, fz, q2, q3, q4, q5, q6, q7, q8⟩ := hg.cells hb hp hpm
  have hlive : ∀ i x, (upd h id (some ⟨putR b.es d ys, b.sz, b.ty⟩)) i = some x → (i = id ∧ x = ⟨putR b.es d ys, b.sz, b.ty⟩) ∨ (i ≠ id ∧ h i = some x) := by
    intro i x hi
    by_cases h1 : i = id
    · subst h1; rw [upd_same] at hi; exact .inl ⟨rfl, (Option.some.inj hi).symm⟩
    · rw [B8 _ _ h1] at hi; exact .inr ⟨h1, hi⟩
  have hthere : ∀ i x, (upd h id (some ⟨putR b.es d ys, b.sz, b.ty⟩)) i = some x → ∃ x', h i = some x' := fun i x hi => by
    rcases hlive i x hi with ⟨rfl, _⟩ | ⟨_, h1⟩
    · exact ⟨_, hb⟩
    · exact ⟨_, h1⟩
  have hfit' : (d + ys.length) * b.sz ≤ p.cap := by
    rcases hfit with hf | rfl
    · exact hf
    · exact Nat.le_trans (Nat.mul_le_mul_right _ (by simpa using hd)) q6
  refine ⟨fun i x hi => ?_, fun i i' x x' r r' hi hi' hr hr' he => ?_, fun k hk => ?_, fun i x r hi hr => ?_, fun i r hr => ?_, ?_, fun g cs hgc => (hg.glob g cs hgc).mono hx⟩
  · rcases hlive i x hi with ⟨rfl, rfl⟩ | ⟨h1, h3⟩
    · refine ⟨p, hp, fun _ => ⟨setArr cells (p.o + d * b.sz) news, fz, q2, O3 _ _ _ _ _ _ _ q3, q4, by rw [L5]; exact q5, ?_, ?_, ?_⟩, fun h => by rw [hpm] at h; cases h⟩
      · show (putR b.es d ys).length * b.sz ≤ p.cap
        rw [putR_len hd]
        rcases Nat.le_total b.es.length (d + ys.length) with h | h
        · rw [Nat.max_eq_right h]; exact hfit'
        · rw [Nat.max_eq_left h]; exact q6
      · intro e he
        unfold putR at he
        rcases List.mem_append.1 he with h9 | h9
        · rcases List.mem_append.1 h9 with h8 | h8
          · exact q7 e (List.mem_of_mem_take h8)
          · exact hyz e h8
        · exact q7 e (List.mem_of_mem_drop h9)
      · intro i' j y hy
        show ∃ v, (setArr cells (p.o + d * b.sz) news)[p.o + i' * b.sz + j]? = some v ∧ _
        have hy0 : ((putR b.es d ys)[i']?).bind (·[j]?) = some y := hy
        rw [putR_get hd] at hy0
        have old : get2 b.es i' j = some y → (i' < d ∨ d + ys.length ≤ i') → ∃ v, (setArr cells (p.o + d * b.sz) news)[p.o + i' * b.sz + j]? = some v ∧ VR (c.put p (p.o + d * b.sz) news) y v ∧ v.oneCell' = true := fun hy2 hout => by
          obtain ⟨v, g1, g2, g3⟩ := q8 _ _ _ hy2
          have hj : j < b.sz := by
            unfold get2 at hy2
            cases hes : b.es[i']? with
            | none => simp [hes] at hy2
            | some e =>
              simp only [hes, Option.bind_some] at hy2
              have := (List.getElem?_eq_some_iff.1 hy2).1
              rw [q7 e (List.mem_of_getElem? hes)] at this; exact this
          refine ⟨v, ?_, g2.mono hx, g3⟩
          rw [G9 _ _ _ _ ?_, g1]
          rcases hout with h | h
          · left
            have e2 : (i' + 1) * b.sz ≤ d * b.sz := Nat.mul_le_mul_right _ h
            rw [Nat.succ_mul] at e2; omega
          · right
            have e2 : (d + ys.length) * b.sz ≤ i' * b.sz := Nat.mul_le_mul_right _ h
            rw [Nat.add_mul] at e2; rw [hnl]; omega
        by_cases h1 : i' < d
        · rw [if_pos h1] at hy0; exact old hy0 (.inl h1)
        · rw [if_neg h1] at hy0
          by_cases h2 : i' < d + ys.length
          · rw [if_pos h2] at hy0
            obtain ⟨u, g1, g2⟩ := hget (i' - d) j y hy0
            have hlt : (i' - d) * b.sz + j < news.length := (List.getElem?_eq_some_iff.1 g1).1
            refine ⟨u, ?_, g2.mono hx, hone u (List.mem_of_getElem? g1)⟩
            have e1 : p.o + i' * b.sz + j = p.o + d * b.sz + ((i' - d) * b.sz + j) := by
              have : i' * b.sz = d * b.sz + (i' - d) * b.sz := by rw [← Nat.add_mul]; congr 1; omega
              omega
            rw [e1]
            refine J1 news cells _ _ u ?_ g1
            rw [hnl]
            rw [Nat.add_mul] at hfit'; omega
          · rw [if_neg h2] at hy0; exact old hy0 (.inr (by omega))
    · obtain ⟨r, g1, g2, g3⟩ := hg.blk i x h3
      have this : r.b ≠ p.b := fun e => h1 (hg.inj i id x b r p h3 hb g1 hp e)
      have hk : (c.put p (p.o + d * b.sz) news).w.heap[r.b]? = c.w.heap[r.b]? := G8 _ _ this _ _ _
      exact ⟨r, g1, fun hm => (g2 hm).mono hx hk, fun hm => (g3 hm).mono hx hk⟩
  · obtain ⟨y, hy⟩ := hthere i x hi
    obtain ⟨y', hy'⟩ := hthere i' x' hi'
    exact hg.inj i i' y y' r r' hy hy' hr hr' he
  · simp only [Cx.put, F8]; exact hg.imm k hk
  · obtain ⟨y, hy⟩ := hthere i x hi
    exact hg.sep i y r hy hr
  · simp only [Cx.put, F8]; exact hg.own i r hr
  · simp only [Cx.put, F8]; exact hg.base
section ops2
variable {E : Env} {o : Oper} {t : Nat → V} {h : Heap} {n : Nat}
theorem BA {ty e : TypeId} {x : Operand} {lo hi : Option Operand} {id off len cp sz : Nat} {b : Blk} {l r : Int} (ho : o.op = .slice ty x lo hi none) (hx : E.eval t x = .vcap id off len cp)
    (hs : sliceP E.P ty = some (e, sz)) (hb : h id = some b) (hbz : b.sz = sz) (hl : bndV E t lo 0 = some l) (hr : bndV E t hi len = some r) (h0 : 0 ≤ l) (h1 : l ≤ r) (h2 : r ≤ cp) :
    OpOK E o t h n [id] false (.view id (off + l.toNat) (r.toNat - l.toNat)) [] n := by
  have hop := N8 (n := n) ho hx hs hb hbz hl hr h0 h1 h2
  intro c a h3 K Q hd hx' hg hrd hft hf hK
  exact hop c a h3 K Q hd hx' hg hrd hft hf fun c' u he hg' hd' hv => hK c' u he hg' hd' hv.uncap
theorem op_append_in {ty tx e : TypeId} {x y : Operand} {sz by' id off len cp : Nat} {b : Blk} {ys : List (List V)} (ho : o.op = .call { callee := .builtin .append, args := #[x, y], argTypes := #[ty, tx] })
    (hx : E.eval t x = .vcap id off len cp) (hb : h id = some b) (hbz : b.sz = sz) (hbt : b.ty = e) (hle : off + len ≤ b.es.length) (hs : elemP E.P ty = some (e, sz, by')) (htx : srcP E.P tx = true) (h0 : sz ≠ 0)
    (hy : srcV h (E.eval t y) = some ys) (hyz : ∀ c ∈ ys, c.length = sz) (hroom : len + ys.length ≤ cp) :
    OpOK E o t h n (id :: srcIds (E.eval t y)) false (.vcap id off (len + ys.length) cp) [(id, some ⟨putR b.es (off + len) ys, sz, e⟩)] n := by
  intro c a h2 K Q hd hx' hg hrd _ hf hK
  have g1 := hx' x (by simp [ho, Op.operands, Call.operands])
  rw [hx] at g1
  have g2 := hx' y (by simp [ho, Op.operands, Call.operands])
  obtain ⟨i, z, hu, hi, hz, rfl, rfl, hzz⟩ := J3 hs
  obtain ⟨d, htu, hdi⟩ := Y4 htx
  have hb2 : h2 id = some b := by rw [hrd id (by simp)]; exact hb
  obtain ⟨news, hsrc⟩ := V7 hg g2 (by rw [P2 (fun id hid => hrd id (by simp [hid]))]; exact hy) h0 hyz
  generalize hw : a.eval x = w at g1
  cases g1 with
  | vcap _ _ _ _ p o' hp hof hlc hpm =>
    obtain ⟨cells, fz, q2, q3, q4, q5, q6, q7, q8⟩ := hg.cells hb2 hp hpm
    have hthere : c.w.there p.b (o' + len * i.size) news.length := by
      intro k hk
      rw [hsrc.size] at hk
      have hcap : ¬ cp = 0 := fun e => by
        have : ys.length = 0 := by omega
        rw [this] at hk; simp at hk
      obtain ⟨e1, e2⟩ := hof.resolve_left hcap
      rw [q2, hbz] at e1 e2
      have hle : (len + ys.length) * i.size ≤ cp * i.size := Nat.mul_le_mul_right _ hroom
      rw [Nat.add_mul] at hle
      refine ⟨?_, ?_⟩
      · have : o' + len * i.size + k < cells.size := by omega
        simp [World.cell?, q3, this]
      · have : ¬ (fz.1 ≤ o' + len * i.size + k ∧ o' + len * i.size + k < fz.2) := by omega
        cases hz : (decide (fz.1 ≤ o' + len * i.size + k) && decide (o' + len * i.size + k < fz.2)) with
        | false => obtain ⟨z1, z2⟩ := fz; simpa [World.frozen?, q3] using hz
        | true =>
          simp only [Bool.and_eq_true, decide_eq_true_eq] at hz
          exact absurd hz this
    have hrun := O4 (P := E.P) (w := c.w) (ty := o.type) (sLen := len) (x := a.eval y) (news := news) hu htu hdi hi (hsrc.len _) (hsrc.first _ rfl) hroom hthere hsrc.one
    have hadd : ys ≠ [] → o' = p.o + off * i.size := fun hne => by
      have hcap : ¬ cp = 0 := fun e => by
        have : ys.length = 0 := by omega
        exact hne (List.eq_nil_of_length_eq_zero this)
      obtain ⟨e1, e2⟩ := hof.resolve_left hcap
      rw [q2, hbz] at e1; exact e1
    have hfit : (off + len + ys.length) * b.sz ≤ p.cap ∨ ys = [] := by
      by_cases hys : ys = []
      · exact .inr hys
      · left
        have hcap : ¬ cp = 0 := fun e => by
          have : ys.length = 0 := by omega
          exact hys (List.eq_nil_of_length_eq_zero this)
        obtain ⟨e1, e2⟩ := hof.resolve_left hcap
        have hle : (len + ys.length) * p.sz ≤ cp * p.sz := Nat.mul_le_mul_right _ hroom
        rw [← q2, Nat.add_assoc, Nat.add_mul]; omega
    obtain ⟨hx2, hg2⟩ := hg.put (ys := ys) (news := news) hb2 hp hpm (d := off + len) hle (by rw [hbz]; exact hyz) (by rw [hbz]; exact hsrc.size) (by rw [hbz]; exact hsrc.get) hsrc.one hfit
    have hworld : c.w.setCells p.b (o' + len * i.size) news = (c.put p (p.o + (off + len) * b.sz) news).w := by
      simp only [Cx.put]
      by_cases hys : ys = []
      · have : news = [] := List.eq_nil_of_length_eq_zero (by rw [hsrc.size, hys]; simp)
        subst this; rfl
      · rw [hadd hys, hbz, Nat.add_mul]; congr 1; omega
    have hex : (execOp a.eval o).run E.P c.w = .ok (.value (.slice (some ⟨p.b, o', none⟩) (len + ys.length) cp)) (c.put p (p.o + (off + len) * b.sz) news).w := by
      rw [← hworld]
      simp [execOp, ho, hw, resolve, invoke, builtin, hrun]
    unfold Oper.wp
    rw [hex, Oper.upon_value]
    refine hK _ _ hx2 ?_ (fun id' hid' => .inl hid') ?_
    · have e1 : app [(id, some ⟨putR b.es (off + len) ys, i.size, e⟩)] h2 = upd h2 id (some ⟨putR b.es (off + len) ys, b.sz, b.ty⟩) := by
        rw [hbz, hbt]; rfl
      rw [e1]; exact hg2
    · exact .vcap id off _ cp p o' hp hof hroom hpm
end ops2
def dstV : V → Option (Nat × Nat × Nat)
  | .view id off len => some (id, off, len)
  | .vcap id off len _ => some (id, off, len)
  | _ => none
theorem X4 {c : Cx} {x : V} {v : Value} {id off len : Nat} (hv : VR c x v) (hx : dstV x = some (id, off, len)) :
    ∃ p o cap, v = .slice (some ⟨p.b, o, none⟩) len cap ∧ c.ρ id = some p ∧ (cap = 0 ∨ (o = p.o + off * p.sz ∧ off * p.sz + cap * p.sz ≤ p.cap)) ∧ len ≤ cap ∧ p.m = false := by
  cases hv with
  | view id' off' len' p o cap hp ho hl hm =>
    simp only [dstV, Option.some.injEq, Prod.mk.injEq] at hx
    obtain ⟨rfl, rfl, rfl⟩ := hx
    exact ⟨p, o, cap, rfl, hp, ho, hl, hm⟩
  | vcap id' off' len' cp p o hp ho hl hm =>
    simp only [dstV, Option.some.injEq, Prod.mk.injEq] at hx
    obtain ⟨rfl, rfl, rfl⟩ := hx
    exact ⟨p, o, cp, rfl, hp, ho, hl, hm⟩
  | _ => simp [dstV] at hx
section ops3
variable {E : Env} {o : Oper} {t : Nat → V} {h : Heap} {n : Nat}
theorem op_copy {ty tx e : TypeId} {x y : Operand} {sz by' id off len id' off' len' k : Nat} {b b' : Blk} (ho : o.op = .call { callee := .builtin .copy, args := #[x, y], argTypes := #[ty, tx] })
    (hx : dstV (E.eval t x) = some (id, off, len)) (hy : dstV (E.eval t y) = some (id', off', len')) (hb : h id = some b) (hb' : h id' = some b') (hbz : b.sz = sz) (hbt : b.ty = e) (hbz' : b'.sz = sz) (hk : Nat.min len' len = k)
    (hle : off ≤ b.es.length) (hle' : off' + k ≤ b'.es.length) (hs : elemP E.P ty = some (e, sz, by')) (h0 : sz ≠ 0) :
    OpOK E o t h n [id, id'] false (.int .i64 k) [(id, some ⟨putR b.es off ((b'.es.drop off').take k), sz, e⟩)] n := by
  intro c a h2 K Q hd hx' hg hrd _ hf hK
  have g1 := hx' x (by simp [ho, Op.operands, Call.operands])
  have g2 := hx' y (by simp [ho, Op.operands, Call.operands])
  obtain ⟨i, z, hu, hi, hz, rfl, rfl, hzz⟩ := J3 hs
  have hb2 : h2 id = some b := by rw [hrd id (by simp)]; exact hb
  have hb2' : h2 id' = some b' := by rw [hrd id' (by simp)]; exact hb'
  obtain ⟨p, o1, cap, hv, hp, hof, hlc, hpm⟩ := X4 g1 hx
  obtain ⟨p', o2, cap', hv', hp', hof', hlc', hpm'⟩ := X4 g2 hy
  have hk1 : k ≤ len := by rw [← hk]; exact Nat.min_le_right _ _
  have hk2 : k ≤ len' := by rw [← hk]; exact Nat.min_le_left _ _
  have hsv : srcV h2 (.view id' off' k) = some ((b'.es.drop off').take k) := by simp [srcV, hb2', hle']
  have hvk : VR c (.view id' off' k) (.slice (some ⟨p'.b, o2, none⟩) k cap') := .view _ _ _ p' o2 cap' hp' hof' (by omega) hpm'
  obtain ⟨cells, fz, q2, q3, q4, q5, q6, q7, q8⟩ := hg.cells hb2 hp hpm
  obtain ⟨cells', fz', r2, r3, r4, r5, r6, r7, r8⟩ := hg.cells hb2' hp' hpm'
  have hyz : ∀ e ∈ (b'.es.drop off').take k, e.length = i.size := fun e he => by rw [r7 e (List.mem_of_mem_drop (List.mem_of_mem_take he)), hbz']
  obtain ⟨news, hsrc⟩ := V7 hg hvk hsv h0 hyz
  have hyl : ((b'.es.drop off').take k).length = k := by simp; omega
  generalize hys : (b'.es.drop off').take k = ys at *
  have hthere : c.w.there p.b o1 news.length := by
    intro j hj
    rw [hsrc.size, hyl] at hj
    have hcap : ¬ cap = 0 := fun e => by
      have : k = 0 := by omega
      rw [this] at hj; simp at hj
    obtain ⟨e1, e2⟩ := hof.resolve_left hcap
    rw [q2, hbz] at e1 e2
    have hle : k * i.size ≤ cap * i.size := Nat.mul_le_mul_right _ (by omega)
    refine ⟨?_, ?_⟩
    · have : o1 + j < cells.size := by omega
      simp [World.cell?, q3, this]
    · have : ¬ (fz.1 ≤ o1 + j ∧ o1 + j < fz.2) := by omega
      cases hz : (decide (fz.1 ≤ o1 + j) && decide (o1 + j < fz.2)) with
      | false => obtain ⟨z1, z2⟩ := fz; simpa [World.frozen?, q3] using hz
      | true =>
        simp only [Bool.and_eq_true, decide_eq_true_eq] at hz
        exact absurd hz this
  have hst := run_storeCells_cells (P := E.P) p.b o1 news 0 c.w (fun j hj => by simpa using (hthere j hj).1) (fun j hj => by simpa using (hthere j hj).2) hsrc.one
  simp only [Nat.add_zero] at hst
  have hfirst : (Builtin.firstCells i.size k (a.eval y)).run E.P c.w = .ok news.toArray c.w := by
    rw [hv']
    have := hsrc.first c.w rfl
    rw [hyl] at this; exact this
  have hadd : ys ≠ [] → o1 = p.o + off * i.size := fun hne => by
    have hcap : ¬ cap = 0 := fun e => by
      have : ys.length = 0 := by omega
      exact hne (List.eq_nil_of_length_eq_zero this)
    obtain ⟨e1, e2⟩ := hof.resolve_left hcap
    rw [q2, hbz] at e1; exact e1
  have hfit : (off + ys.length) * b.sz ≤ p.cap ∨ ys = [] := by
    by_cases hys : ys = []
    · exact .inr hys
    · left
      have hcap : ¬ cap = 0 := fun e => by
        have : ys.length = 0 := by omega
        exact hys (List.eq_nil_of_length_eq_zero this)
      obtain ⟨e1, e2⟩ := hof.resolve_left hcap
      have hle : ys.length * p.sz ≤ cap * p.sz := Nat.mul_le_mul_right _ (by omega)
      rw [← q2, Nat.add_mul]; omega
  obtain ⟨hx2, hg2⟩ := hg.put (ys := ys) (news := news) hb2 hp hpm (d := off) hle (by rw [hbz]; exact hyz) (by rw [hbz]; exact hsrc.size) (by rw [hbz]; exact hsrc.get) hsrc.one hfit
  have hworld : c.w.setCells p.b o1 news = (c.put p (p.o + off * b.sz) news).w := by
    simp only [Cx.put]
    by_cases hys : ys = []
    · have : news = [] := List.eq_nil_of_length_eq_zero (by rw [hsrc.size, hys]; simp)
      subst this; rfl
    · rw [hadd hys, hbz]
  have hlen : (Builtin.lenOf (a.eval y)).run E.P c.w = .ok len' c.w := by rw [hv']; simp [Builtin.lenOf]
  have hex : (execOp a.eval o).run E.P c.w = .ok (.value (.int .i64 k)) (c.put p (p.o + off * b.sz) news).w := by
    rw [← hworld]
    simp [execOp, ho, hv, resolve, invoke, builtin, Builtin.copy_, run_underlying hu, hlen, hk, sizeOf, typeInfo, hi, hfirst, hst, goInt]
  unfold Oper.wp
  rw [hex, Oper.upon_value]
  refine hK _ _ hx2 ?_ (fun id' hid' => .inl hid') (.int _ _)
  have e1 : app [(id, some ⟨putR b.es off ys, i.size, e⟩)] h2 = upd h2 id (some ⟨putR b.es off ys, b.sz, b.ty⟩) := by
    rw [hbz, hbt]; rfl
  rw [e1]; exact hg2
end ops3
def zeroOne (P : Program) (e : TypeId) : Bool := match P.info? e with
  | some i => match i.zero with
    | some z => z.cells.all fun v => v.oneCell'
    | none => false
  | none => false
theorem V1 {z : Array Value} {k : Nat} (h : z.all (fun v => v.oneCell') = true) (h0 : z.size ≠ 0) : ∀ u ∈ (Builtin.zeroCells z k).toList, u.oneCell' = true := fun u hu => by
  unfold Builtin.zeroCells at hu
  simp only [Array.toList_map, List.mem_map] at hu
  obtain ⟨j, _, rfl⟩ := hu
  have hlt : j % z.size < z.size := Nat.mod_lt _ (Nat.pos_of_ne_zero h0)
  rw [getElem!_pos z _ hlt]
  exact (Array.all_eq_true.1 h) _ hlt
theorem get2_unk {k sz i j : Nat} {x : V} (h : get2 (List.replicate k (List.replicate sz V.unk)) i j = some x) : i < k ∧ j < sz ∧ x = .unk := by
  unfold get2 at h
  rw [List.getElem?_replicate] at h
  split at h
  · rename_i hi
    simp only [Option.bind_some] at h
    rw [List.getElem?_replicate] at h
    split at h
    · rename_i hj; exact ⟨hi, hj, (Option.some.inj h).symm⟩
    · cases h
  · cases h
section ops4
variable {E : Env} {o : Oper} {t : Nat → V} {h : Heap} {n : Nat}
theorem BB {ty tx e : TypeId} {x y : Operand} {kk kn : IntKind} {sz by' id off len cp k : Nat} {b : Blk} (ho : o.op = .call { callee := .builtin .append, args := #[x, y], argTypes := #[ty, tx] })
    (hx : E.eval t x = .vcap id off len cp) (hy : E.eval t y = .int kk k) (hb : h id = some b) (hbz : b.sz = sz) (hle : off + len ≤ b.es.length) (hs : elemP E.P ty = some (e, sz, by')) (htn : E.P.underlying tx = some (.int kn))
    (hone : zeroOne E.P e = true) (h0 : sz ≠ 0) (hk : 0 < k) (hroom : cp < len + k) (hbd : (len + k) * by' ≤ 140737488355328) (hl : len + k ≤ 9223372036854775807) :
    OpOK E o t h n [id] false (.view n 0 (len + k)) [(n, some ⟨(b.es.drop off).take len ++ List.replicate k (List.replicate sz .unk), sz, e⟩)] (n + 1) := by
  intro c a h2 K Q hd hx' hg hrd _ hf hK
  have g1 := hx' x (by simp [ho, Op.operands, Call.operands])
  rw [hx] at g1
  have g2 := (by have := hx' y (by simp [ho, Op.operands, Call.operands]); rw [hy] at this; exact this.int_inv)
  obtain ⟨i, z, hu, hi, hz, rfl, rfl, hzz⟩ := J3 hs
  have hzo : z.cells.all (fun v => v.oneCell') = true := by
    unfold zeroOne at hone
    rw [hi] at hone
    simp only [hz] at hone
    exact hone
  have hb2 : h2 id = some b := by rw [hrd id (by simp)]; exact hb
  have hn : c.ρ n = none := hf n (Nat.le_refl _) (by omega)
  have hold : srcV h2 (.view id off len) = some ((b.es.drop off).take len) := by simp [srcV, hb2, hle]
  have hpb : ∃ p, c.ρ id = some p ∧ p.m = false := by
    generalize a.eval x = w at g1
    cases g1 with
    | vcap _ _ _ _ p _ hp _ _ hm => exact ⟨p, hp, hm⟩
  obtain ⟨pb, q1, hpm⟩ := hpb
  obtain ⟨cells, fz, q2, q3, q4, q5, q6, q7, q8⟩ := hg.cells hb2 q1 hpm
  have hdz : ∀ e ∈ (b.es.drop off).take len, e.length = i.size := fun e he => by rw [q7 e (List.mem_of_mem_drop (List.mem_of_mem_take he)), hbz]
  obtain ⟨olds, hos⟩ := V7 hg g1.uncap hold h0 hdz
  have hdl : ((b.es.drop off).take len).length = len := by simp; omega
  generalize hxs : (b.es.drop off).take len = xs at *
  generalize hw : a.eval x = w at g1 hos
  cases g1 with
  | vcap _ _ _ _ p o' hp hof hlc =>
    have hxd : Ext c { c with w := c.w.drew } := Ext.same c j4
    have hgd := hg.drew
    have hfo : (Builtin.firstCells i.size len (.slice (some ⟨p.b, o', none⟩) len cp)).run E.P c.w.drew = .ok olds.toArray c.w.drew := by
      have := hos.first c.w.drew rfl
      rw [hdl] at this; exact this
    have hkb : k * i.bytes ≤ 281474976710656 := Nat.le_trans (Nat.mul_le_mul_right _ (by omega : k ≤ len + k)) (Nat.le_trans hbd (by decide))
    have hrun := Lib.run_append_grow_zeros (P := E.P) (ty := o.type) c.w ty tx e i z kk kn hu htn hi hz (some ⟨p.b, o', none⟩) len cp olds hfo k hk (by omega) hroom (by omega) hkb (growslice_fits (by omega) hbd)
    have hge := grownCap_ge c.w (len + k) cp e
    generalize hcap : grownCap c.w (len + k) cp e = ncap at hrun hge
    let news : List Value := (Builtin.zeroCells z.cells k).toList
    have hnl : news.length = k * i.size := by simp only [news, Array.length_toList, size_zeroCells, hzz]
    have hcells : olds.toArray ++ Builtin.zeroCells z.cells k ++ Builtin.zeroCells z.cells (ncap - (len + k)) = (olds ++ news).toArray ++ Builtin.zeroCells z.cells (ncap - (len + k)) := by
      apply Array.ext'
      simp only [news, Array.toList_append, List.append_assoc]
    rw [hcells] at hrun
    have hex : (execOp a.eval o).run E.P c.w = .ok (.value (.slice (some ⟨c.w.heap.size, 0, none⟩) (len + k) ncap)) (({ c with w := c.w.drew } : Cx).new n ((olds ++ news).toArray ++ Builtin.zeroCells z.cells (ncap - (len + k))) e i.size).w := by
      have hrun' := hrun
      simp only [execOp, ho, resolve, invoke, builtin, List.map_toArray, List.map_cons, List.map_nil, hw, g2, Sem.run_bind, Sem.run_pure, Result.andThen_ok, hrun', Cx.new]
    unfold Oper.wp
    rw [hex, Oper.upon_value]
    have hyz : ∀ e ∈ List.replicate k (List.replicate i.size V.unk), e.length = i.size := fun e he => by rw [List.eq_of_mem_replicate he]; simp
    have hrows := V8 (c := c) (xs := xs) (ys := List.replicate k (List.replicate i.size V.unk)) (olds := olds) (news := news) (rest := Builtin.zeroCells z.cells (ncap - (len + k))) (sz := i.size) hos.size (by rw [hnl]; simp) hdz hyz hos.get
      (fun i' j y hy => by
        obtain ⟨e1, e2, rfl⟩ := get2_unk hy
        have : (i' + 1) * i.size ≤ k * i.size := Nat.mul_le_mul_right _ e1
        rw [Nat.succ_mul] at this
        have hlt2 : i' * i.size + j < news.length := by omega
        exact ⟨_, List.getElem?_eq_getElem hlt2, .unk _⟩)
    have hsize : ((olds ++ news).toArray ++ Builtin.zeroCells z.cells (ncap - (len + k))).size = ncap * i.size := by
      simp only [Array.size_append, List.size_toArray, List.length_append, size_zeroCells, hnl, hos.size, hzz, hdl]
      rw [← Nat.add_mul, ← Nat.add_mul]; congr 1; omega
    have hx2 := Cx.new_ext hgd (n := n) hn ((olds ++ news).toArray ++ Builtin.zeroCells z.cells (ncap - (len + k))) e i.size
    have hell : (xs ++ List.replicate k (List.replicate i.size V.unk)).length = len + k := by rw [List.length_append, hdl, List.length_replicate]
    have hg3 := Good.new (es := xs ++ List.replicate k (List.replicate i.size V.unk)) hgd hn ((olds ++ news).toArray ++ Builtin.zeroCells z.cells (ncap - (len + k))) e i.size (by
        rw [hsize, hell]; exact Nat.mul_le_mul_right _ hge) (fun e he => by
        rcases List.mem_append.1 he with h9 | h9
        · exact hdz e h9
        · exact hyz e h9) (fun i' j x hx => by
        obtain ⟨u, k1, k2⟩ := hrows i' j x hx
        refine ⟨u, k1, k2.mono (hxd.trans hx2), ?_⟩
        have hlt : i' * i.size + j < (olds ++ news).length := by
          have hil : i' < (xs ++ List.replicate k (List.replicate i.size V.unk)).length := by
            unfold get2 at hx
            cases h9 : (xs ++ List.replicate k (List.replicate i.size V.unk))[i']? with
            | none => simp [h9] at hx
            | some _ => exact (List.getElem?_eq_some_iff.1 h9).1
          have hjl : j < i.size := by
            unfold get2 at hx
            cases h9 : (xs ++ List.replicate k (List.replicate i.size V.unk))[i']? with
            | none => simp [h9] at hx
            | some r =>
              simp only [h9, Option.bind_some] at hx
              have h10 := (List.getElem?_eq_some_iff.1 hx).1
              rcases List.mem_append.1 (List.mem_of_getElem? h9) with h11 | h11
              · rw [hdz r h11] at h10; exact h10
              · rw [hyz r h11] at h10; exact h10
          rw [hell] at hil
          have : (i' + 1) * i.size ≤ (len + k) * i.size := Nat.mul_le_mul_right _ hil
          rw [Nat.succ_mul, Nat.add_mul] at this
          rw [List.length_append, hos.size, hdl, hnl]; omega
        rw [Array.getElem?_append_left (by simpa using hlt)] at k1
        have hm : u ∈ olds ++ news := List.mem_of_getElem? (i := i' * i.size + j) (by simpa using k1)
        rcases List.mem_append.1 hm with h9 | h9
        · exact hos.one u h9
        · exact V1 hzo (by rw [hzz]; exact h0) u h9)
    refine hK _ _ (hxd.trans hx2) hg3 (AH _ _ _ _ _) ?_
    have := VR.view (c := ({ c with w := c.w.drew } : Cx).new n ((olds ++ news).toArray ++ Builtin.zeroCells z.cells (ncap - (len + k))) e i.size) n 0 (len + k) ⟨c.w.heap.size, 0, _, i.size, false⟩ 0 ncap (by simp [Cx.new]; rfl) (.inr ⟨by simp, ?_⟩) hge
    · simpa using this
    · simp only [Nat.zero_mul, Nat.zero_add]
      rw [← hsize]; simp
end ops4
section ops5
variable {E : Env} {o : Oper} {t : Nat → V} {h : Heap} {n : Nat}
def ApartRun (P : Program) (f : FuncId) : Prop := ∀ (w : World) (a b : Addr) (la ca lb cb : Nat) (tA tB : TypeId) (kA kB : Nat), a.block ≠ b.block → w.shape? a.block = some (tA, kA) → w.shape? b.block = some (tB, kB) → kB ≠ 0 →
  w.frozen? a = false → w.frozen? { block := a.block, off := kA } = false → (callFunc f #[.slice (some a) la ca, .slice (some b) lb cb]).run P w = .ok (.value (.bool false)) w
theorem op_apart {fo x y : Operand} {tys : Array TypeId} {f : FuncId} {i j m i' j' m' : Nat} {B B' : Blk} (hrun : ApartRun E.P f)
    (ho : o.op = .call { callee := .value fo, args := #[x, y], argTypes := tys }) (hc : E.eval t fo = .clo f []) (hx : dstV (E.eval t x) = some (i, j, m)) (hy : dstV (E.eval t y) = some (i', j', m')) (hne : i ≠ i')
    (hb : h i = some B) (hb' : h i' = some B') (h1 : B.sz ≠ 1) (h2 : 0 < B'.es.length * B'.sz) : OpOK E o t h n [i, i'] false (.bool false) [] n :=
  OpOK.value fun c a h3 hx' hg hrd => by
    have g0 := hx' fo (by simp [ho, Op.operands, Call.operands])
    rw [hc] at g0
    obtain ⟨p, o1, cap, hv, hp, hof, hlc, hpm⟩ := X4 (hx' x (by simp [ho, Op.operands, Call.operands])) hx
    obtain ⟨p', o2, cap', hv', hp', hof', hlc', hpm'⟩ := X4 (hx' y (by simp [ho, Op.operands, Call.operands])) hy
    have hb3 : h3 i = some B := by rw [hrd i (by simp)]; exact hb
    have hb3' : h3 i' = some B' := by rw [hrd i' (by simp)]; exact hb'
    obtain ⟨cells, fz, q2, q3, q4, q5, q6, q7, q8⟩ := hg.cells hb3 hp hpm
    obtain ⟨cells', fz', r2, r3, r4, r5, r6, r7, r8⟩ := hg.cells hb3' hp' hpm'
    have hblk : p.b ≠ p'.b := fun e => hne (hg.inj i i' B B' p p' hb3 hb3' hp hp' e)
    have hfz : fz.1 = fz.2 := q4.resolve_right (fun e => h1 e.2)
    have hfr : ∀ k, c.w.frozen? ⟨p.b, k, none⟩ = false := fun k => by
      have : ¬ (fz.1 ≤ k ∧ k < fz.2) := by omega
      cases hz : (decide (fz.1 ≤ k) && decide (k < fz.2)) with
      | false => obtain ⟨z1, z2⟩ := fz; simpa [World.frozen?, q3] using hz
      | true =>
        simp only [Bool.and_eq_true, decide_eq_true_eq] at hz
        exact absurd hz this
    have hr := hrun c.w ⟨p.b, o1, none⟩ ⟨p'.b, o2, none⟩ m cap m' cap' B.ty B'.ty cells.size cells'.size hblk (by simp [World.shape?, q3]) (by simp [World.shape?, r3]) (by omega) (hfr _) (hfr _)
    refine ⟨.bool false, ?_, .bool _⟩
    generalize hw : a.eval fo = w at g0
    cases g0 with
    | clo _ _ vs hl hh =>
      have : vs = #[] := Array.eq_empty_of_size_eq_zero (by simpa using hl.symm)
      subst this
      simp [execOp, ho, hw, resolve, Deferred.ofValue, invoke, hv, hv', hr]
end ops5
end Go.V
namespace Go.V
open Go
set_option linter.unusedVariables false
section
variable {E : Env} {sz : Nat} {t : Nat → V} {h : Heap} {n : Nat} {ops : Array Oper} {l : List Oper} {o : Oper} {bl : List Nat} {pre : List Ef} {R : (Nat → V) → Heap → Nat → Prop} {x y : Operand} {ty ty' : TypeId} {k : IntKind} {a b : Int}
theorem rcap {e : TypeId} {i j m cp : Nat} (ho : o.op = .call { callee := .builtin .cap, args := #[x], argTypes := #[ty] }) {d : Nat} (G0 : E.eval t x = .vcap i j m cp ∧ E.P.underlying ty = some (.slice e) ∧ o.dst = some d ∧ Nat.blt d sz = true ∧ guardV ops t o = some true) (w : WR E sz ops l (upd t d (.int .i64 cp)) h n R) : WR E sz ops (o :: l) t h n R := have ⟨hx, hu, hdd, hd, hg⟩ := G0; r0 (op_cap ho hx hu) hdd hd hg w
theorem Y5 {lo hi : Option Operand} {e : TypeId} {i j m cp s : Nat} {B : Blk} (G0 : o.op = .slice ty x lo hi none ∧ E.eval t x = .vcap i j m cp ∧ sliceP E.P ty = some (e, s)) (hb : h i = some B) (G1 : B.sz = s ∧ bndV E t lo 0 = some a ∧ bndV E t hi m = some b) (h0 : 0 ≤ a) (h1 : a ≤ b) (h2 : b ≤ cp) {d : Nat} (G2 : o.dst = some d ∧ Nat.blt d sz = true ∧ guardV ops t o = some true) (w : WR E sz ops l (upd t d (.vcap i (j + a.toNat) (b.toNat - a.toNat) (cp - a.toNat))) h n R) : WR E sz ops (o :: l) t h n R := have ⟨ho, hx, hs⟩ := G0; have ⟨hbz, hl, hr⟩ := G1; have ⟨hdd, hd, hg⟩ := G2; r0 (N8 ho hx hs hb hbz hl hr h0 h1 h2) hdd hd hg w
theorem dslc {lo hi : Option Operand} {e : TypeId} {i j m cp s : Nat} {B : Blk} (G0 : o.op = .slice ty x lo hi none ∧ E.eval t x = .vcap i j m cp ∧ sliceP E.P ty = some (e, s)) (hb : h i = some B) (G1 : B.sz = s ∧ bndV E t lo 0 = some a ∧ bndV E t hi m = some b) (h0 : 0 ≤ a) (h1 : a ≤ b) (h2 : b ≤ cp) {d : Nat} (G2 : o.dst = some d ∧ Nat.blt d sz = true ∧ guardV ops t o = some true) (w : WD E sz ops bl (⟨false, .vcap i (j + a.toNat) (b.toNat - a.toNat) (cp - a.toNat), [i], false, [], n, n⟩ :: pre) l (upd t d (.vcap i (j + a.toNat) (b.toNat - a.toNat) (cp - a.toNat))) h n R) : WD E sz ops bl pre (o :: l) t h n R := have ⟨ho, hx, hs⟩ := G0; have ⟨hbz, hl, hr⟩ := G1; have ⟨hdd, hd, hg⟩ := G2; d0 (N8 ho hx hs hb hbz hl hr h0 h1 h2) hdd hd hg w
theorem dslcV {lo hi : Option Operand} {e : TypeId} {i j m cp s : Nat} {B : Blk} (G0 : o.op = .slice ty x lo hi none ∧ E.eval t x = .vcap i j m cp ∧ sliceP E.P ty = some (e, s)) (hb : h i = some B) (G1 : B.sz = s ∧ bndV E t lo 0 = some a ∧ bndV E t hi m = some b) (h0 : 0 ≤ a) (h1 : a ≤ b) (h2 : b ≤ cp) {d : Nat} (G2 : o.dst = some d ∧ Nat.blt d sz = true ∧ guardV ops t o = some true) (w : WD E sz ops bl (⟨false, .view i (j + a.toNat) (b.toNat - a.toNat), [i], false, [], n, n⟩ :: pre) l (upd t d (.view i (j + a.toNat) (b.toNat - a.toNat))) h n R) : WD E sz ops bl pre (o :: l) t h n R := have ⟨ho, hx, hs⟩ := G0; have ⟨hbz, hl, hr⟩ := G1; have ⟨hdd, hd, hg⟩ := G2; d0 (BA ho hx hs hb hbz hl hr h0 h1 h2) hdd hd hg w
theorem dapi {s s' i j m cp : Nat} {B : Blk} {es : List (List V)} {e : TypeId} (ho : o.op = .call { callee := .builtin .append, args := #[x, y], argTypes := #[ty, ty'] }) (hx : E.eval t x = .vcap i j m cp) (hb : h i = some B) (G0 : B.sz = s ∧ B.ty = e) (hle : j + m ≤ B.es.length) (G1 : elemP E.P ty = some (e, s, s') ∧ srcP E.P ty' = true) (h0 : s ≠ 0) (hy : srcV h (E.eval t y) = some es) (hyz : ∀ c ∈ es, c.length = s) (hroom : m + es.length ≤ cp) {d : Nat} (G2 : o.dst = some d ∧ Nat.blt d sz = true ∧ guardV ops t o = some true) (w : WD E sz ops bl (⟨false, .vcap i j (m + es.length) cp, (i :: srcIds (E.eval t y)), false, [(i, some ⟨putR B.es (j + m) es, s, e⟩)], n, n⟩ :: pre) l (upd t d (.vcap i j (m + es.length) cp)) (app [(i, some ⟨putR B.es (j + m) es, s, e⟩)] h) n R) : WD E sz ops bl pre (o :: l) t h n R := have ⟨hbz, hbt⟩ := G0; have ⟨hs, htx⟩ := G1; have ⟨hdd, hd, hg⟩ := G2; dOpD (op_append_in ho hx hb hbz hbt hle hs htx h0 hy hyz hroom) hdd hd hg (by omega) (fun h => by simp at h) w
theorem rapm {kk kn : IntKind} {s s' i j m cp q : Nat} {B : Blk} {e : TypeId} (ho : o.op = .call { callee := .builtin .append, args := #[x, y], argTypes := #[ty, ty'] }) (G0 : E.eval t x = .vcap i j m cp ∧ E.eval t y = .int kk q) (hb : h i = some B) (hbz : B.sz = s) (hle : j + m ≤ B.es.length) (G1 : elemP E.P ty = some (e, s, s') ∧ E.P.underlying ty' = some (.int kn)) (hone : zeroOne E.P e = true) (h0 : s ≠ 0) (hk : 0 < q) (hroom : cp < m + q) (hbd : (m + q) * s' ≤ 140737488355328) (hl : m + q ≤ 9223372036854775807) {d : Nat} (G2 : o.dst = some d ∧ Nat.blt d sz = true ∧ guardV ops t o = some true) (w : WR E sz ops l (upd t d (.view n 0 (m + q))) (app [(n, some ⟨(B.es.drop j).take m ++ List.replicate q (List.replicate s .unk), s, e⟩)] h) (n + 1) R) : WR E sz ops (o :: l) t h n R := have ⟨hx, hy⟩ := G0; have ⟨hs, htn⟩ := G1; have ⟨hdd, hd, hg⟩ := G2; rOpD (BB ho hx hy hb hbz hle hs htn hone h0 hk hroom hbd hl) hdd hd hg (by omega) (fun h => by simp at h) w
theorem rcpy {s s' i j m i' j' m' q : Nat} {B B' : Blk} {e : TypeId} (ho : o.op = .call { callee := .builtin .copy, args := #[x, y], argTypes := #[ty, ty'] }) (G0 : dstV (E.eval t x) = some (i, j, m) ∧ dstV (E.eval t y) = some (i', j', m')) (hb : h i = some B) (hb2 : h i' = some B') (G1 : B.sz = s ∧ B.ty = e ∧ B'.sz = s) (hk : Nat.min m' m = q) (hle : j ≤ B.es.length) (hle2 : j' + q ≤ B'.es.length) (hs : elemP E.P ty = some (e, s, s')) (h0 : s ≠ 0) {d : Nat} (G2 : o.dst = some d ∧ Nat.blt d sz = true ∧ guardV ops t o = some true) (w : WR E sz ops l (upd t d (.int .i64 q)) (app [(i, some ⟨putR B.es j ((B'.es.drop j').take q), s, e⟩)] h) n R) : WR E sz ops (o :: l) t h n R := have ⟨hx, hy⟩ := G0; have ⟨hbz, hbt, hbz2⟩ := G1; have ⟨hdd, hd, hg⟩ := G2; rOpD (op_copy ho hx hy hb hb2 hbz hbt hbz2 hk hle hle2 hs h0) hdd hd hg (by omega) (fun h => by simp at h) w
theorem dcpy {s s' i j m i' j' m' q : Nat} {B B' : Blk} {e : TypeId} (ho : o.op = .call { callee := .builtin .copy, args := #[x, y], argTypes := #[ty, ty'] }) (G0 : dstV (E.eval t x) = some (i, j, m) ∧ dstV (E.eval t y) = some (i', j', m')) (hb : h i = some B) (hb2 : h i' = some B') (G1 : B.sz = s ∧ B.ty = e ∧ B'.sz = s) (hk : Nat.min m' m = q) (hle : j ≤ B.es.length) (hle2 : j' + q ≤ B'.es.length) (hs : elemP E.P ty = some (e, s, s')) (h0 : s ≠ 0) {d : Nat} (G2 : o.dst = some d ∧ Nat.blt d sz = true ∧ guardV ops t o = some true) (w : WD E sz ops bl (⟨false, .int .i64 q, [i, i'], false, [(i, some ⟨putR B.es j ((B'.es.drop j').take q), s, e⟩)], n, n⟩ :: pre) l (upd t d (.int .i64 q)) (app [(i, some ⟨putR B.es j ((B'.es.drop j').take q), s, e⟩)] h) n R) : WD E sz ops bl pre (o :: l) t h n R := have ⟨hx, hy⟩ := G0; have ⟨hbz, hbt, hbz2⟩ := G1; have ⟨hdd, hd, hg⟩ := G2; dOpD (op_copy ho hx hy hb hb2 hbz hbt hbz2 hk hle hle2 hs h0) hdd hd hg (by omega) (fun h => by simp at h) w
theorem Y3 {i j m c : Nat} {d : Nat} (G0 : o.op = .move x ∧ E.eval t x = .vcap i j m c ∧ o.dst = some d ∧ Nat.blt d sz = true ∧ guardV ops t o = some true) (w : WR E sz ops l (upd t d (.vcap i j m c)) h n R) : WR E sz ops (o :: l) t h n R := have ⟨ho, hx, hdd, hd, hg⟩ := G0; r0 (oMv ho hx) hdd hd hg w
theorem dmK {i j m c : Nat} {d : Nat} (G0 : o.op = .move x ∧ E.eval t x = .vcap i j m c ∧ o.dst = some d ∧ Nat.blt d sz = true ∧ guardV ops t o = some true) (w : WD E sz ops bl (⟨false, .vcap i j m c, [], false, [], n, n⟩ :: pre) l (upd t d (.vcap i j m c)) h n R) : WD E sz ops bl pre (o :: l) t h n R := have ⟨ho, hx, hdd, hd, hg⟩ := G0; d0 (oMv ho hx) hdd hd hg w
theorem raK {i j m c : Nat} {d : Nat} (G0 : o.op = .assign x ∧ E.eval t x = .vcap i j m c ∧ o.dst = some d ∧ Nat.blt d sz = true ∧ guardV ops t o = some true) (w : WR E sz ops l (upd t d (.vcap i j m c)) h n R) : WR E sz ops (o :: l) t h n R := have ⟨ho, hx, hdd, hd, hg⟩ := G0; r0 (oAs ho hx) hdd hd hg w
theorem daK {i j m c : Nat} {d : Nat} (G0 : o.op = .assign x ∧ E.eval t x = .vcap i j m c ∧ o.dst = some d ∧ Nat.blt d sz = true ∧ guardV ops t o = some true) (w : WD E sz ops bl (⟨false, .vcap i j m c, [], false, [], n, n⟩ :: pre) l (upd t d (.vcap i j m c)) h n R) : WD E sz ops bl pre (o :: l) t h n R := have ⟨ho, hx, hdd, hd, hg⟩ := G0; d0 (oAs ho hx) hdd hd hg w
theorem rapt {z : Operand} {tys : Array TypeId} {f : FuncId} {i j m i' j' m' : Nat} {B B' : Blk} (hrun : ApartRun E.P f) (ho : o.op = .call { callee := .value z, args := #[x, y], argTypes := tys }) (G0 : E.eval t z = .clo f [] ∧ dstV (E.eval t x) = some (i, j, m) ∧ dstV (E.eval t y) = some (i', j', m')) (hne : i ≠ i') (hb : h i = some B) (hb2 : h i' = some B') (h1 : B.sz ≠ 1) (h2 : 0 < B'.es.length * B'.sz) {d : Nat} (G1 : o.dst = some d ∧ Nat.blt d sz = true ∧ guardV ops t o = some true) (w : WR E sz ops l (upd t d (.bool false)) h n R) : WR E sz ops (o :: l) t h n R := have ⟨hc, hx, hy⟩ := G0; have ⟨hdd, hd, hg⟩ := G1; r0 (op_apart hrun ho hc hx hy hne hb hb2 h1 h2) hdd hd hg w
end
end Go.V
namespace Go.Proofs.Ytknnniaoboaghaa
open Go.V
set_option linter.unusedVariables false
set_option linter.unusedSimpArgs false
set_option maxRecDepth 20000
set_option maxHeartbeats 4000000
theorem putR_A {A T Y : List (List V)} {d : Nat} (hd : A.length = d) (hY : Y.length ≤ T.length) : putR (A ++ T) d Y = A ++ (Y ++ T.drop Y.length) := by
 subst hd
 unfold putR
 rw [List.take_left, List.append_assoc]
 congr 2
 rw [List.drop_append, List.drop_of_length_le (by omega), List.nil_append, Nat.add_sub_cancel_left]
theorem insR {A B T : List (List V)} {x : List V} {d : Nat} (hd : A.length = d) (hT : T.length = B.length + 1) : putR (putR (A ++ T) d [x]) (d + 1) B = A ++ x :: B := by
 rw [putR_A hd (by simp; omega)]
 have e : A ++ ([x] ++ T.drop ([x] : List (List V)).length) = (A ++ [x]) ++ T.drop 1 := by simp
 rw [e, putR_A (by simp; omega) (by simp; omega), List.drop_of_length_le (by simp; omega)]
 simp
theorem insI {A B : List (List V)} {x : List V} {d : Nat} (hd : A.length = d) : putR (putR (A ++ B) (d + 1) B) d [x] = A ++ x :: B := by
 subst hd
 cases B with
 | nil => simp [putR]
 | cons b r =>
  have e : putR (A ++ b :: r) (A.length + 1) (b :: r) = A ++ b :: b :: r := by
   unfold putR
   rw [List.take_append, List.take_of_length_le (by omega), show A.length + 1 - A.length = 1 by omega, List.drop_of_length_le (by simp)]
   simp
  rw [e]
  unfold putR
  rw [List.take_left, List.drop_append, List.drop_of_length_le (by simp)]
  simp
theorem apart137 : ApartRun En.P 137 := fun w a b la ca lb cb tA tB kA kB hne hsa hsb hkB hfa hfe => by
 show (callFunc 137 #[.slice (some a) la ca, .slice (some b) lb cb]).run Try.prog w = _
 rw [run_callFunc_extern Try.func137 (by kernel_rfl) (by kernel_rfl) (by kernel_rfl) (e := Extern.SlicesOverlaps.overlaps #[33, 33] #[4]) (by kernel_rfl)]
 have hr := Lib.run_overlaps_apart (P := Try.prog) w 33 4 115 (by kernel_rfl) 6 (fun w => by kernel_rfl) a b la ca lb cb hne tA tB kA kB hsa hsb hkB hfa hfe
 simp only [Sem.run_bind, hr, Result.andThen_ok, Sem.run_pure]
end Go.Proofs.Ytknnniaoboaghaa
namespace Go.V
open Go
open Go.RowKit (Below)
set_option linter.unusedVariables false
theorem Open.alias {E : Env} {f : FuncId} {args : List V} {h : Heap} {n m id off len cp : Nat} {wr : List (Nat × Option Blk)} {X : Blk}
    (H : Open E f args h n (.vcap id off len cp) wr m) (hX : app wr h id = some X) : Open E f args h n (.view m off len) (wr ++ [(id, none), (m, some X)]) (m + 1) := by
  unfold Open at H ⊢
  refine ⟨⟨H.1.1, Nat.le_succ_of_le H.1.2⟩, fun c vs hg hfr hal har => ?_⟩
  refine Calls.mono (H.2 c vs hg hfr hal har) ?_
  rintro e w' ⟨u, c', rfl, rfl, hx, hg', hd, hv⟩
  generalize hvv : V.vcap id off len cp = vv at hv
  cases hv with
  | vcap id' off' len' cp' p o hp ho hl hm =>
    cases hvv
    have hmn : c'.ρ m = none := by
      cases hq : c'.ρ m with
      | none => rfl
      | some q =>
        rcases hd m (by rw [hq]; nofun) with h1 | h1
        · exact absurd (hfr m H.1.2) h1
        · omega
    have him : id ≠ m := fun e => by rw [e, hmn] at hp; cases hp
    let c2 : Cx := { c' with ρ := upd c'.ρ m (some p) }
    have hx2 : Ext c' c2 := by
      refine ⟨rfl, fun i q hq => ?_, fun _ h => h, fun _ _ => rfl, Below.refl _ _⟩
      have : i ≠ m := fun e => by rw [e, hmn] at hq; cases hq
      show upd c'.ρ m (some p) i = some q
      rw [B8 _ _ this]; exact hq
    have hρ : ∀ i, i ≠ m → c2.ρ i = c'.ρ i := fun i hi => B8 _ _ hi
    have hρm : c2.ρ m = some p := upd_same _ _ _
    have happ : app (wr ++ [(id, none), (m, some X)]) h = upd (upd (app wr h) id none) m (some X) := by rw [I3]; rfl
    have hlive : ∀ i x, upd (upd (app wr h) id none) m (some X) i = some x → (i = m ∧ x = X) ∨ (i ≠ m ∧ i ≠ id ∧ app wr h i = some x) := by
      intro i x hi
      by_cases h1 : i = m
      · subst h1; rw [upd_same] at hi; exact .inl ⟨rfl, (Option.some.inj hi).symm⟩
      · rw [B8 _ _ h1] at hi
        by_cases h2 : i = id
        · subst h2; rw [upd_same] at hi; cases hi
        · rw [B8 _ _ h2] at hi; exact .inr ⟨h1, h2, hi⟩
    
    have hold : ∀ i x r, upd (upd (app wr h) id none) m (some X) i = some x → c2.ρ i = some r → ∃ k, app wr h k = some x ∧ c'.ρ k = some r ∧ ((i = m ∧ k = id) ∨ (i = k ∧ k ≠ id)) := by
      intro i x r hi hr
      rcases hlive i x hi with ⟨rfl, rfl⟩ | ⟨h1, h2, h3⟩
      · rw [hρm] at hr; cases hr
        exact ⟨id, hX, hp, .inl ⟨rfl, rfl⟩⟩
      · rw [hρ i h1] at hr
        exact ⟨i, h3, hr, .inr ⟨rfl, h2⟩⟩
    refine ⟨_, c2, rfl, rfl, hx.trans hx2, ?_, fun i hi => ?_, ?_⟩
    · rw [happ]
      refine ⟨fun i x hi => ?_, fun i i' x x' r r' hi hi' hr hr' he => ?_, hg'.imm, fun i x r hi hr => ?_, fun i r hr => ?_, hg'.base, fun g cs hgc => (hg'.glob g cs hgc).mono hx2⟩
      · rcases hlive i x hi with ⟨rfl, rfl⟩ | ⟨h1, h2, h3⟩
        · obtain ⟨q, g1, g2, g3⟩ := hg'.blk id _ hX
          rw [hp] at g1; obtain rfl := Option.some.inj g1
          exact ⟨_, hρm, fun hm => (g2 hm).mono hx2 rfl, fun hm => (g3 hm).mono hx2 rfl⟩
        · obtain ⟨q, g1, g2, g3⟩ := hg'.blk i x h3
          exact ⟨q, hx2.rho _ _ g1, fun hm => (g2 hm).mono hx2 rfl, fun hm => (g3 hm).mono hx2 rfl⟩
      · obtain ⟨k, a1, a2, a3⟩ := hold i x r hi hr
        obtain ⟨k', b1, b2, b3⟩ := hold i' x' r' hi' hr'
        have hk := hg'.inj k k' x x' r r' a1 b1 a2 b2 he
        rcases a3 with ⟨rfl, a4⟩ | ⟨rfl, a4⟩ <;> rcases b3 with ⟨rfl, b4⟩ | ⟨rfl, b4⟩
        · rfl
        · exact absurd (hk ▸ a4) b4
        · exact absurd (hk.trans b4) a4
        · exact hk
      · obtain ⟨k, a1, a2, _⟩ := hold i x r hi hr
        exact hg'.sep k x r a1 a2
      · by_cases h1 : i = m
        · subst h1; rw [hρm] at hr; cases hr; exact hg'.own id p hp
        · rw [hρ i h1] at hr; exact hg'.own i r hr
    · by_cases h1 : i = m
      · right; have := H.1.2; omega
      · rw [hρ i h1] at hi
        rcases hd i hi with h2 | h2
        · exact .inl h2
        · right; omega
    · exact .view m off len p o cp hρm ho hl hm
  | _ => cases hvv
theorem Open.lessW {E : Env} {f : FuncId} {args : List V} {h : Heap} {n m : Nat} {v : V} {wr wr' : List (Nat × Option Blk)} (H : Open E f args h n v wr m) (hw : ∀ i b, app wr' h i = some b → app wr h i = some b) : Open E f args h n v wr' m := by
  unfold Open at H ⊢
  refine ⟨H.1, fun c vs hg hfr hal har => ?_⟩
  refine Calls.mono (H.2 c vs hg hfr hal har) ?_
  rintro e w' ⟨u, c', h1, h2, h3, h4, h5, h6⟩
  exact ⟨u, c', h1, h2, h3, h4.less hw, h5, h6⟩
end Go.V
namespace Go.Proofs.Ytknnniaoboaghaa
open Go.V
set_option linter.unusedVariables false
set_option linter.unusedSimpArgs false
set_option maxRecDepth 20000
set_option maxHeartbeats 4000000
theorem o112i (L : List Sn) (v : Sn) (i c : Nat) (hi : i < L.length) (hc : L.length + 1 ≤ c) (hL : L.length ≤ 1000) {sb vb : Nat} {h : Heap} {n : Nat} (hs : sb < n) (hv : vb < n) (hne : vb ≠ sb) (k1 : h sb = some ⟨L.map Sn.V, 6, 115⟩) (k2 : h vb = some ⟨[v.V], 6, 115⟩) :
  V.Open En 112 [.vcap sb 0 L.length c, .int .i64 i, .view vb 0 1] h n (.vcap sb 0 (L.length + 1) c) [(sb, some ⟨(L.take i ++ v :: L.drop i).map Sn.V, 6, 115⟩)] n := by
 refine V.Open.of_wp Try.func112 rfl kb ?_
 refine A2 (A0 (AA j5 (A3 (A1 (A2 (A0 (Y3 j5 (B6 j5 ?_))))))))
 (apply Y5 j3; exact Q0; exact j3; exact Q2; exact Q2; exact Q2; exact j3)
 refine A3 (A1 (A2 (A0 (K1 j5 (H0 rfl rfl rfl j3 (D0 j5 (A3 (A1 (A2 (A2 (A0 (B6 j5 ?_))))))))))))
 refine H5 j6 (fun h => absurd h ((by show ¬ ((1 : Int) = 0); decide))) ?_
 intro h3_1
 refine A3 (A1 (wF rfl (B0 (A1 (A2 (A0 (Y3 j5 (H0 rfl rfl rfl j3 (D0 j5 (A3 (A1 (A2 ?_))))))))))))
 refine A2 (A0 (B6 j5 (B6 j5 ?_)))
 refine H5 j6 (fun h => absurd h ((by omega))) ?_
 intro h6_2
 refine A3 (A1 (wF rfl (B0 (A1 (A2 (A2 (A0 (B6 j5 (B6 j5 (C3 j3 ?_ ?_ j3 ?_))))))))))
 ·exact Q2
 ·exact Q2
 refine Y3 j5 (rcap rfl j5 ?_)
 refine V4 j6 (fun h => absurd h ((by show ¬ ((L.length : Int) + ((1 : Nat) : Int) > (c : Int)); omega))) ?_
 intro h8_5
 refine A3 (A1 (wF rfl (B0 (A1 (A2 (A0 (Y3 j5 (B6 j5 (B6 j5 (C3 j3 ?_ ?_ j3 ?_))))))))))
 ·exact Q2
 ·exact Q2
 (apply Y5 j3; exact Q0; exact j3; exact Q2; exact Q2; exact Q2; exact j3)
 refine raK j5 (A3 (A1 (A2 (A2 (A0 (K1 j5 (Y3 j5 (B6 j5 (B6 j5 (C3 j3 ?_ ?_ j3 ?_))))))))))
 ·exact Q2
 ·exact Q2
 (apply Y5 j3; exact Q0; exact j3; exact Q2; exact Q2; exact Q2; exact j3)
 (apply rapt apart137 rfl j3 hne; exact Q0; exact Q0; (show (6 : Nat) ≠ 1; decide); (show 0 < (List.map Sn.V L).length * 6; rw [List.length_map]; omega); exact j3)
 refine D5 (c := false) j5 (A3 (A1 (wT rfl (A2 (C2 [0, 0, 0, 6, 15, 0, 0, 96, 255] rfl (by decide +kernel) ?_)))))
 refine dmK j5 (I0 j5 (I0 j5 (V3 j3 ?_ ?_ j3 ?_)))
 ·exact Q2
 ·exact Q2
 (apply dslc j3; exact Q0; exact j3; exact Q2; exact Q2; exact Q2; exact j3)
 refine dmK j5 (I0 j5 ?_)
 (apply dslc j3; exact Q0; exact j3; exact Q2; exact Q2; exact Q2; exact j3)
 (apply dcpy (q := L.length - i) rfl j2; exact Q0; exact Q0; exact j3; exact Q29; exact Q2; exact Q2; rfl; exact kz; exact j3)
 refine B1 9 [3, 1, 0, 0, 1, 0, 0, 0, 0] [] j2 (by decide +kernel) trivial ?_
 refine A1 (A2 (A0 (Y3 j5 (B6 j5 ?_))))
 (apply Y5 j3; exact Q0; exact j3; exact Q2; exact Q2; exact Q2; exact j3)
 refine K1 j5 ?_
 (apply rcpy (q := 1) rfl j2; exact Q0; exact Q0; exact j3; exact Q29; exact Q2; exact Q2; rfl; exact kz; exact j3)
 refine A3 (A1 (A2 (A0 (Y3 j5 (raK j5 (A3 (A1 (A9 (B2 ?_)))))))))
 refine E7 rfl (show V.vcap sb (0 + Int.toNat 0) (((L.length : Int) + ((1 : Nat) : Int)).toNat - Int.toNat 0) (c - Int.toNat 0) = _ from by rw [show ((L.length : Int) + ((1 : Nat) : Int)).toNat - Int.toNat 0 = L.length + 1 by omega]; rfl) ?_ (Nat.le_refl _)
 refine K8 (fun jx hjx => ?_) (fun jx hjx hn => ?_)
 ·simp only [List.map_cons, List.map_nil, List.mem_cons, List.not_mem_nil, or_false] at hjx
  rw [hjx]
  (simp (disch := omega) only [↓appC, ↓updN, ↓updS, ↓app0])
  refine congrArg (fun z => some (Blk.mk z 6 115)) ?_
  have z0 : Int.toNat 0 = 0 := rfl
  have hs1 : 0 + Int.toNat 0 + ((i : Int) + ((1 : Nat) : Int)).toNat = i + 1 := by omega
  have hs2 : 0 + Int.toNat 0 + (i : Int).toNat = i := by omega
  have h2 : List.take (L.length - i) (List.drop (0 + Int.toNat 0 + (i : Int).toNat) (List.map Sn.V L)) = (L.drop i).map Sn.V := by
   rw [hs2, List.take_of_length_le (by simp)]; simp
  have h0 : List.map Sn.V L = (L.take i).map Sn.V ++ (L.drop i).map Sn.V := by rw [← List.map_append, List.take_append_drop]
  refine Eq.trans (congr (congr (congrArg putR (congr (congr (congrArg putR h0) hs1) h2)) hs2) rfl) ?_
  refine (insI (x := v.V) (by simp; omega)).trans ?_
  simp
 ·simp only [List.map_cons, List.map_nil, List.mem_cons, List.not_mem_nil, or_false, not_or] at hn
  (simp (disch := omega) only [↓appC, ↓updN, ↓updS, ↓app0])
end Go.Proofs.Ytknnniaoboaghaa
