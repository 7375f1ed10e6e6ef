import Derived.Test.YteifdelnahccjaaGreatDoorE10
namespace Go.Proofs.YteifdelnahccjaaGreatDoor
open Go Go.V
set_option linter.unusedVariables false
set_option linter.unusedSimpArgs false
set_option maxRecDepth 20000
set_option maxHeartbeats 4000000
def kByteArray : List Kd := [.flat]
def ctByteArray (s : ByteArray) : Nat := 1
noncomputable def mkByteArray (k : Int) (s : ByteArray) : ByteArray := Mt (k)
def kInt : List Kd := [.flat]
def ctInt (s : Int) : Nat := 1
noncomputable def mkInt (k : Int) (s : Int) : Int := k
def kMsg : List Kd := [.flat, .flat, .flat, .flat, .flat, .flat, .flat]
def ctMsg (s : Msg) : Nat := 1 + 1 + 1 + 1 + 1 + 1 + 1
noncomputable def mkMsg (k : Int) (s : Msg) : Msg := ⟨k, k + 1, k + 1 + 1, k + 1 + 1 + 1, Mt (k + 1 + 1 + 1 + 1), Mt (k + 1 + 1 + 1 + 1 + 1), Mt (k + 1 + 1 + 1 + 1 + 1 + 1)⟩
def kCt : List Kd := [.flat, .sl 37 kMsg]
def ctCt (s : Ct) : Nat := 1 + ctL ctMsg s.ps
noncomputable def mkCt (k : Int) (s : Ct) : Ct := ⟨Mt (k), mkL mkMsg ctMsg (k + 1) s.ps⟩
noncomputable def mk0Ct (k : Int) (s : Ct) : Ct := ⟨s.bd, mkL mkMsg ctMsg (k) s.ps⟩
def ct0Ct (s : Ct) : Nat := ctL ctMsg s.ps
def kSlt : List Kd := [.flat, .sl 37 kMsg, .sl 37 kMsg, .flat, .flat]
def ctSlt (s : Slt) : Nat := 1 + ctL ctMsg s.pr + ctL ctMsg s.cm + 1 + 1
noncomputable def mkSlt (k : Int) (s : Slt) : Slt := ⟨Mt (k), mkL mkMsg ctMsg (k + 1) s.pr, mkL mkMsg ctMsg (k + 1 + (ctL ctMsg s.pr : Int)) s.cm, mb (k + 1 + (ctL ctMsg s.pr : Int) + (ctL ctMsg s.cm : Int)), mb (k + 1 + (ctL ctMsg s.pr : Int) + (ctL ctMsg s.cm : Int) + 1)⟩
noncomputable def mk0Slt (k : Int) (s : Slt) : Slt := ⟨s.bd, mkL mkMsg ctMsg (k) s.pr, mkL mkMsg ctMsg (k + (ctL ctMsg s.pr : Int)) s.cm, s.se, s.dn⟩
def ct0Slt (s : Slt) : Nat := ctL ctMsg s.pr + ctL ctMsg s.cm
def kRep : List Kd := [.flat, .flat, .flat, .flat, .sl 80 kSlt, .sl 44 kCt, .sl 9 kByteArray, .sl 37 kMsg]
def ctRep (s : Rep) : Nat := 1 + 1 + 1 + 1 + ctL ctSlt s.sl + ctL ctCt s.cs + ctL ctByteArray s.lg + ctL ctMsg s.ch
noncomputable def mkRep (k : Int) (s : Rep) : Rep := ⟨k, k + 1, k + 1 + 1, mb (k + 1 + 1 + 1), mkL mkSlt ctSlt (k + 1 + 1 + 1 + 1) s.sl, mkL mkCt ctCt (k + 1 + 1 + 1 + 1 + (ctL ctSlt s.sl : Int)) s.cs, mkL mkByteArray ctByteArray (k + 1 + 1 + 1 + 1 + (ctL ctSlt s.sl : Int) + (ctL ctCt s.cs : Int)) s.lg, mkL mkMsg ctMsg (k + 1 + 1 + 1 + 1 + (ctL ctSlt s.sl : Int) + (ctL ctCt s.cs : Int) + (ctL ctByteArray s.lg : Int)) s.ch⟩
noncomputable def mk0Rep (k : Int) (s : Rep) : Rep := ⟨s.id, s.nd, s.vw, s.ac, mkL mkSlt ctSlt (k) s.sl, mkL mkCt ctCt (k + (ctL ctSlt s.sl : Int)) s.cs, mkL mkByteArray ctByteArray (k + (ctL ctSlt s.sl : Int) + (ctL ctCt s.cs : Int)) s.lg, mkL mkMsg ctMsg (k + (ctL ctSlt s.sl : Int) + (ctL ctCt s.cs : Int) + (ctL ctByteArray s.lg : Int)) s.ch⟩
def ct0Rep (s : Rep) : Nat := ctL ctSlt s.sl + ctL ctCt s.cs + ctL ctByteArray s.lg + ctL ctMsg s.ch
def kPc : List Kd := [.flat, .flat, .flat, .flat, .flat, .flat, .flat, .flat]
def ctPc (s : Pc) : Nat := 1 + 1 + 1 + 1 + 1 + 1 + 1 + 1
noncomputable def mkPc (k : Int) (s : Pc) : Pc := ⟨k, ⟨k + 1, k + 1 + 1, k + 1 + 1 + 1, k + 1 + 1 + 1 + 1, Mt (k + 1 + 1 + 1 + 1 + 1), Mt (k + 1 + 1 + 1 + 1 + 1 + 1), Mt (k + 1 + 1 + 1 + 1 + 1 + 1 + 1)⟩⟩
def kGrp : List Kd := [.flat, .sl 3 kInt, .sl 54 kRep, .sl 130 kPc, .sl 37 kMsg]
def ctGrp (s : Grp) : Nat := 1 + ctL ctInt s.fa + ctL ctRep s.rs + ctL ctPc s.wi + ctL ctMsg s.se
noncomputable def mkGrp (k : Int) (s : Grp) : Grp := ⟨k, mkL mkInt ctInt (k + 1) s.fa, mkL mkRep ctRep (k + 1 + (ctL ctInt s.fa : Int)) s.rs, mkL mkPc ctPc (k + 1 + (ctL ctInt s.fa : Int) + (ctL ctRep s.rs : Int)) s.wi, mkL mkMsg ctMsg (k + 1 + (ctL ctInt s.fa : Int) + (ctL ctRep s.rs : Int) + (ctL ctPc s.wi : Int)) s.se⟩
noncomputable def mk0Grp (k : Int) (s : Grp) : Grp := ⟨s.nd, mkL mkInt ctInt (k) s.fa, mkL mkRep ctRep (k + (ctL ctInt s.fa : Int)) s.rs, mkL mkPc ctPc (k + (ctL ctInt s.fa : Int) + (ctL ctRep s.rs : Int)) s.wi, mkL mkMsg ctMsg (k + (ctL ctInt s.fa : Int) + (ctL ctRep s.rs : Int) + (ctL ctPc s.wi : Int)) s.se⟩
def ct0Grp (s : Grp) : Nat := ctL ctInt s.fa + ctL ctRep s.rs + ctL ctPc s.wi + ctL ctMsg s.se
theorem om20 (L : List ByteArray) (k : Int) (hk : 0 ≤ k) (hc : k + (ctL ctByteArray L : Int) ≤ 1099511627775) {S : List Nat} {v : V} {h : Heap} {n : Nat} (ho : Own h (.sl 9 kByteArray) S v (.sl false (L.map tT))) (hnd : S.Nodup) (hlt : ∀ j ∈ S, j < n) :
  OpenM En 20 [v, .int .i64 k] h n (fun u g m => u = .int .i64 (k + (ctL ctByteArray L : Int)) ∧ Own g (.sl 9 kByteArray) S v (.sl false ((mkL mkByteArray ctByteArray k L).map tT)) ∧ Fr h n S g ∧ Ch h g) := by
 rcases ho.len0 with ⟨rfl, rfl, he⟩ | ⟨id, R0, B0, hv, hS0, hb0, hle0⟩
 ·obtain rfl := List.map_eq_nil_iff.1 he
  refine OpenM.of_ev (st := []) Tryz.func20 rfl kb ?_
  refine A3 (st := []) ?_
  refine br (fun h => absurd h ((by decide))) ?_
  intro h2_3
  exact T7 rfl (Ch.refl _) ⟨by show V.int .i64 k = V.int .i64 (k + ((0 : Nat) : Int)); rw [show k + ((0 : Nat) : Int) = k by omega], .nil _ _, Fr.refl _ _ _, Ch.refl _⟩
 ·rw [List.length_map] at hv
  subst hv
  have hid : id < n := hlt id (by rw [hS0]; exact List.mem_cons_self)
  have hMl : (mkL mkByteArray ctByteArray k L).length = L.length := K4 L k
  have hL : L.length ≤ ctL ctByteArray L := K6 (fun a => by unfold ctByteArray; omega) L
  refine OpenM.of_ev (st := [3]) Tryz.func20 rfl kb ?_
  refine A9 (fun (a : MK) => [.view id 0 L.length, .int .i64 a.y, .unk, .unk, .unk, .int .i64 a.i]) (fun (a : MK) => a.g) (fun (a : MK) => a.m) (fun (a : MK) => MkI tT mkByteArray ctByteArray 9 kByteArray L k S (.view id 0 L.length) h n a) (fun (a : MK) => L.length - a.i) ⟨0, k, n, h⟩ ?_ ?_ ?_ ?_ ?_
  ·exact ⟨Nat.zero_le _, by show k = k + ((ctL ctByteArray [] : Nat) : Int); rw [show ctL ctByteArray [] = 0 from rfl]; omega, by dsimp only; rw [mix_zero]; exact ho, Fr.refl _ _ _, Nat.le_refl _, Ch.refl _⟩
  ·(repeat first | exact LE.nil _ | refine LE.unk _ _ ?_ | refine LE.eq _ _ _ rfl ?_)
  ·exact LessH.refl _
  ·exact Nat.le_refl _
  intro ⟨i, y, m, g⟩ hI ih
  obtain ⟨hil, hyk, how, hfr, hnm, hch⟩ := hI
  dsimp only at hil hyk how hfr hnm hch ⊢
  have hml := I5 (i := i) hMl hil
  have hcl := G4 (ct := ctByteArray) L i
  refine A3 (st := [3]) ?_
  refine br ?_ ?_ <;> intro h2_3
  ·obtain ⟨R, S1, Si, S2, r, hb, hS, hRl, hrow, hor, hback⟩ := how.at (⟨#[]⟩ : ByteArray) (i := i) (by rw [hml]; omega)
   rw [← Nat.zero_add i] at hrow
   rw [J5 (⟨#[]⟩ : ByteArray) hMl (by omega)] at hor
   have hlt2 := E3 (ct := ctByteArray) (⟨#[]⟩ : ByteArray) L i (by omega)
   have hle2 := G4 (ct := ctByteArray) L (i + 1)
   have hgt2 := K5 (mk := mkByteArray) (ct := ctByteArray) (⟨#[]⟩ : ByteArray) L k i (by omega)
   rw [← hyk] at hgt2
   revert hor hlt2 hgt2
   generalize L.getD i (⟨#[]⟩ : ByteArray) = e
   intro hor hlt2 hgt2
   have hce : ctByteArray e = 1 := rfl
   obtain ⟨_, rfl, hor1⟩ := hor.flat_inv
   obtain ⟨rfl, rfl⟩ := hor1.nil_inv
   have hnd2 := hnd
   have hlt3 := hlt
   rw [hS] at hnd2 hlt3
   have hRi : i < R.length := by have := hml; omega
   have hd0 : ∀ j, j ∈ S1 ∨ j ∈ S2 → j < n ∧ j ≠ id := fun j hj => by
    rcases hj with hj | hj
    ·exact ⟨hlt3 j (by simp [hj]), (fun q => F3 hnd2 (A := S1) (B := [id]) hj (by rw [q]; exact List.mem_singleton.2 rfl) (by simp only [List.count_cons, List.count_append, List.count_nil]; omega))⟩
    ·exact ⟨hlt3 j (by simp [hj]), (fun q => F3 hnd2 (A := S2) (B := [id]) hj (by rw [q]; exact List.mem_singleton.2 rfl) (by simp only [List.count_cons, List.count_append, List.count_nil]; omega))⟩
   refine C5 (q67 _ (by omega)) rfl rfl rfl ?_
   (refine D7 (by exact Q2) ⟨rfl, C0 ?_⟩)
   (apply est (u := .str _) j3; exact Q2; exact L1; exact j2; rfl; rfl; exact kb; rfl)
   refine C1 ?_
   refine H2 fun GG hGG => ?_
   refine C1 ?_
   refine C9 (ih ⟨i + 1, y + 1, _, GG⟩ ⟨by dsimp only; omega, by dsimp only; omega, ?_, ?_, by dsimp only; omega, by dsimp only; rw [hGG]; exact (by repeat first | exact hch | refine Ch.app ?_)⟩ (by dsimp only; omega)) (by (repeat first | exact LE.nil _ | refine LE.unk _ _ ?_ | refine LE.eq _ _ _ rfl ?_)) (LessH.refl _) (Nat.le_refl _)
   ·dsimp only
    rw [← E8 (⟨#[]⟩ : ByteArray) hMl (show i < L.length by omega), hgt2, hS]
    apply hback GG
    ·rw [hGG]; simp (disch := (first | omega | assumption)) only [↓app0, ↓appC, ↓updS, ↓updN]; (try simp only [List.set_set, Nat.zero_add]); (try rfl)
    ·intro j hj
     obtain ⟨z0, z1⟩ := hd0 j hj
     rw [hGG]; simp (disch := (first | omega | assumption)) only [↓app0, ↓appC, ↓updS, ↓updN]
    ·exact (OwnR.str OwnR.nil)
   ·dsimp only
    intro j hj hjS
    rw [hS] at hjS
    have hjS' := fun q => hjS (List.mem_cons_of_mem _ q)
    have z0 : j ≠ id := fun q => hjS (by rw [q]; exact List.mem_cons_self)
    rw [hGG]; simp (disch := (first | omega | assumption)) only [↓app0, ↓appC, ↓updS, ↓updN]
    exact hfr j hj (by rw [hS]; exact hjS)
  ·obtain rfl : i = L.length := by omega
   rw [D0] at hyk
   refine T7 rfl hch ⟨by rw [hyk]; rfl, ?_, hfr, hch⟩
   rw [← mix_full hMl]; exact how
theorem om111 (L : List Int) (k : Int) (hk : 0 ≤ k) (hc : k + (ctL ctInt L : Int) ≤ 1099511627775) {S : List Nat} {v : V} {h : Heap} {n : Nat} (ho : Own h (.sl 3 kInt) S v (.sl false (L.map iT))) (hnd : S.Nodup) (hlt : ∀ j ∈ S, j < n) :
  OpenM En 111 [v, .int .i64 k] h n (fun u g m => u = .int .i64 (k + (ctL ctInt L : Int)) ∧ Own g (.sl 3 kInt) S v (.sl false ((mkL mkInt ctInt k L).map iT)) ∧ Fr h n S g ∧ Ch h g) := by
 rcases ho.len0 with ⟨rfl, rfl, he⟩ | ⟨id, R0, B0, hv, hS0, hb0, hle0⟩
 ·obtain rfl := List.map_eq_nil_iff.1 he
  refine OpenM.of_ev (st := []) Tryz.func111 rfl kb ?_
  refine A3 (st := []) ?_
  refine br (fun h => absurd h ((by decide))) ?_
  intro h2_3
  exact T7 rfl (Ch.refl _) ⟨by show V.int .i64 k = V.int .i64 (k + ((0 : Nat) : Int)); rw [show k + ((0 : Nat) : Int) = k by omega], .nil _ _, Fr.refl _ _ _, Ch.refl _⟩
 ·rw [List.length_map] at hv
  subst hv
  have hid : id < n := hlt id (by rw [hS0]; exact List.mem_cons_self)
  have hMl : (mkL mkInt ctInt k L).length = L.length := K4 L k
  have hL : L.length ≤ ctL ctInt L := K6 (fun a => by unfold ctInt; omega) L
  refine OpenM.of_ev (st := [3]) Tryz.func111 rfl kb ?_
  refine A9 (fun (a : MK) => [.view id 0 L.length, .int .i64 a.y, .unk, .unk, .unk, .int .i64 a.i]) (fun (a : MK) => a.g) (fun (a : MK) => a.m) (fun (a : MK) => MkI iT mkInt ctInt 3 kInt L k S (.view id 0 L.length) h n a) (fun (a : MK) => L.length - a.i) ⟨0, k, n, h⟩ ?_ ?_ ?_ ?_ ?_
  ·exact ⟨Nat.zero_le _, by show k = k + ((ctL ctInt [] : Nat) : Int); rw [show ctL ctInt [] = 0 from rfl]; omega, by dsimp only; rw [mix_zero]; exact ho, Fr.refl _ _ _, Nat.le_refl _, Ch.refl _⟩
  ·(repeat first | exact LE.nil _ | refine LE.unk _ _ ?_ | refine LE.eq _ _ _ rfl ?_)
  ·exact LessH.refl _
  ·exact Nat.le_refl _
  intro ⟨i, y, m, g⟩ hI ih
  obtain ⟨hil, hyk, how, hfr, hnm, hch⟩ := hI
  dsimp only at hil hyk how hfr hnm hch ⊢
  have hml := I5 (i := i) hMl hil
  have hcl := G4 (ct := ctInt) L i
  refine A3 (st := [3]) ?_
  refine br ?_ ?_ <;> intro h2_3
  ·obtain ⟨R, S1, Si, S2, r, hb, hS, hRl, hrow, hor, hback⟩ := how.at (0 : Int) (i := i) (by rw [hml]; omega)
   rw [← Nat.zero_add i] at hrow
   rw [J5 (0 : Int) hMl (by omega)] at hor
   have hlt2 := E3 (ct := ctInt) (0 : Int) L i (by omega)
   have hle2 := G4 (ct := ctInt) L (i + 1)
   have hgt2 := K5 (mk := mkInt) (ct := ctInt) (0 : Int) L k i (by omega)
   rw [← hyk] at hgt2
   revert hor hlt2 hgt2
   generalize L.getD i (0 : Int) = e
   intro hor hlt2 hgt2
   have hce : ctInt e = 1 := rfl
   obtain ⟨_, rfl, hor1⟩ := hor.flat_inv
   obtain ⟨rfl, rfl⟩ := hor1.nil_inv
   have hnd2 := hnd
   have hlt3 := hlt
   rw [hS] at hnd2 hlt3
   have hRi : i < R.length := by have := hml; omega
   have hd0 : ∀ j, j ∈ S1 ∨ j ∈ S2 → j < n ∧ j ≠ id := fun j hj => by
    rcases hj with hj | hj
    ·exact ⟨hlt3 j (by simp [hj]), (fun q => F3 hnd2 (A := S1) (B := [id]) hj (by rw [q]; exact List.mem_singleton.2 rfl) (by simp only [List.count_cons, List.count_append, List.count_nil]; omega))⟩
    ·exact ⟨hlt3 j (by simp [hj]), (fun q => F3 hnd2 (A := S2) (B := [id]) hj (by rw [q]; exact List.mem_singleton.2 rfl) (by simp only [List.count_cons, List.count_append, List.count_nil]; omega))⟩
   (refine D7 (by exact Q2) ⟨rfl, C0 ?_⟩)
   (apply est (u := .int _ _) j3; exact Q2; exact L1; exact j2; rfl; rfl; exact kb; rfl)
   refine C1 ?_
   refine H2 fun GG hGG => ?_
   refine C1 ?_
   refine C9 (ih ⟨i + 1, y + 1, _, GG⟩ ⟨by dsimp only; omega, by dsimp only; omega, ?_, ?_, by dsimp only; omega, by dsimp only; rw [hGG]; exact (by repeat first | exact hch | refine Ch.app ?_)⟩ (by dsimp only; omega)) (by (repeat first | exact LE.nil _ | refine LE.unk _ _ ?_ | refine LE.eq _ _ _ rfl ?_)) (LessH.refl _) (Nat.le_refl _)
   ·dsimp only
    rw [← E8 (0 : Int) hMl (show i < L.length by omega), hgt2, hS]
    apply hback GG
    ·rw [hGG]; simp (disch := (first | omega | assumption)) only [↓app0, ↓appC, ↓updS, ↓updN]; (try simp only [List.set_set, Nat.zero_add]); (try rfl)
    ·intro j hj
     obtain ⟨z0, z1⟩ := hd0 j hj
     rw [hGG]; simp (disch := (first | omega | assumption)) only [↓app0, ↓appC, ↓updS, ↓updN]
    ·exact (OwnR.int OwnR.nil)
   ·dsimp only
    intro j hj hjS
    rw [hS] at hjS
    have hjS' := fun q => hjS (List.mem_cons_of_mem _ q)
    have z0 : j ≠ id := fun q => hjS (by rw [q]; exact List.mem_cons_self)
    rw [hGG]; simp (disch := (first | omega | assumption)) only [↓app0, ↓appC, ↓updS, ↓updN]
    exact hfr j hj (by rw [hS]; exact hjS)
  ·obtain rfl : i = L.length := by omega
   rw [D0] at hyk
   refine T7 rfl hch ⟨by rw [hyk]; rfl, ?_, hfr, hch⟩
   rw [← mix_full hMl]; exact how
theorem om19 (L : List Msg) (k : Int) (hk : 0 ≤ k) (hc : k + (ctL ctMsg L : Int) ≤ 1099511627775) {S : List Nat} {v : V} {h : Heap} {n : Nat} (ho : Own h (.sl 37 kMsg) S v (.sl false (L.map Msg.T))) (hnd : S.Nodup) (hlt : ∀ j ∈ S, j < n) :
  OpenM En 19 [v, .int .i64 k] h n (fun u g m => u = .int .i64 (k + (ctL ctMsg L : Int)) ∧ Own g (.sl 37 kMsg) S v (.sl false ((mkL mkMsg ctMsg k L).map Msg.T)) ∧ Fr h n S g ∧ Ch h g) := by
 rcases ho.len0 with ⟨rfl, rfl, he⟩ | ⟨id, R0, B0, hv, hS0, hb0, hle0⟩
 ·obtain rfl := List.map_eq_nil_iff.1 he
  refine OpenM.of_ev (st := []) Tryz.func19 rfl kb ?_
  refine A3 (st := []) ?_
  refine br (fun h => absurd h ((by decide))) ?_
  intro h2_3
  exact T7 rfl (Ch.refl _) ⟨by show V.int .i64 k = V.int .i64 (k + ((0 : Nat) : Int)); rw [show k + ((0 : Nat) : Int) = k by omega], .nil _ _, Fr.refl _ _ _, Ch.refl _⟩
 ·rw [List.length_map] at hv
  subst hv
  have hid : id < n := hlt id (by rw [hS0]; exact List.mem_cons_self)
  have hMl : (mkL mkMsg ctMsg k L).length = L.length := K4 L k
  have hL : L.length ≤ ctL ctMsg L := K6 (fun a => by unfold ctMsg; omega) L
  refine OpenM.of_ev (st := [3]) Tryz.func19 rfl kb ?_
  refine A9 (fun (a : MK) => [.view id 0 L.length, .int .i64 a.y, .unk, .unk, .unk, .int .i64 a.i]) (fun (a : MK) => a.g) (fun (a : MK) => a.m) (fun (a : MK) => MkI Msg.T mkMsg ctMsg 37 kMsg L k S (.view id 0 L.length) h n a) (fun (a : MK) => L.length - a.i) ⟨0, k, n, h⟩ ?_ ?_ ?_ ?_ ?_
  ·exact ⟨Nat.zero_le _, by show k = k + ((ctL ctMsg [] : Nat) : Int); rw [show ctL ctMsg [] = 0 from rfl]; omega, by dsimp only; rw [mix_zero]; exact ho, Fr.refl _ _ _, Nat.le_refl _, Ch.refl _⟩
  ·(repeat first | exact LE.nil _ | refine LE.unk _ _ ?_ | refine LE.eq _ _ _ rfl ?_)
  ·exact LessH.refl _
  ·exact Nat.le_refl _
  intro ⟨i, y, m, g⟩ hI ih
  obtain ⟨hil, hyk, how, hfr, hnm, hch⟩ := hI
  dsimp only at hil hyk how hfr hnm hch ⊢
  have hml := I5 (i := i) hMl hil
  have hcl := G4 (ct := ctMsg) L i
  refine A3 (st := [3]) ?_
  refine br ?_ ?_ <;> intro h2_3
  ·obtain ⟨R, S1, Si, S2, r, hb, hS, hRl, hrow, hor, hback⟩ := how.at Msg0 (i := i) (by rw [hml]; omega)
   rw [← Nat.zero_add i] at hrow
   rw [J5 Msg0 hMl (by omega)] at hor
   have hlt2 := E3 (ct := ctMsg) Msg0 L i (by omega)
   have hle2 := G4 (ct := ctMsg) L (i + 1)
   have hgt2 := K5 (mk := mkMsg) (ct := ctMsg) Msg0 L k i (by omega)
   rw [← hyk] at hgt2
   revert hor hlt2 hgt2
   generalize L.getD i Msg0 = e
   intro hor hlt2 hgt2
   have hce : ctMsg e = 1 + 1 + 1 + 1 + 1 + 1 + 1 := rfl
   obtain ⟨_, rfl, hor1⟩ := hor.flat_inv
   obtain ⟨_, rfl, hor2⟩ := hor1.flat_inv
   obtain ⟨_, rfl, hor3⟩ := hor2.flat_inv
   obtain ⟨_, rfl, hor4⟩ := hor3.flat_inv
   obtain ⟨_, rfl, hor5⟩ := hor4.flat_inv
   obtain ⟨_, rfl, hor6⟩ := hor5.flat_inv
   obtain ⟨_, rfl, hor7⟩ := hor6.flat_inv
   obtain ⟨rfl, rfl⟩ := hor7.nil_inv
   have hnd2 := hnd
   have hlt3 := hlt
   rw [hS] at hnd2 hlt3
   have hRi : i < R.length := by have := hml; omega
   have hd0 : ∀ j, j ∈ S1 ∨ j ∈ S2 → j < n ∧ j ≠ id := fun j hj => by
    rcases hj with hj | hj
    ·exact ⟨hlt3 j (by simp [hj]), (fun q => F3 hnd2 (A := S1) (B := [id]) hj (by rw [q]; exact List.mem_singleton.2 rfl) (by simp only [List.count_cons, List.count_append, List.count_nil]; omega))⟩
    ·exact ⟨hlt3 j (by simp [hj]), (fun q => F3 hnd2 (A := S2) (B := [id]) hj (by rw [q]; exact List.mem_singleton.2 rfl) (by simp only [List.count_cons, List.count_append, List.count_nil]; omega))⟩
   (refine D7 (by exact Q2) ⟨rfl, C0 ?_⟩)
   (apply est (u := .int _ _) j3; exact Q2; exact L1; exact j2; rfl; rfl; exact kb; rfl)
   refine C1 ?_
   (refine D7 (by exact Q2) ⟨rfl, C0 ?_⟩)
   (apply est (u := .int _ _) j3; exact Q2; exact L1; exact j2; rfl; rfl; exact kb; rfl)
   refine C1 ?_
   (refine D7 (by exact Q2) ⟨rfl, C0 ?_⟩)
   (apply est (u := .int _ _) j3; exact Q2; exact L1; exact j2; rfl; rfl; exact kb; rfl)
   refine C1 ?_
   (refine D7 (by exact Q2) ⟨rfl, C0 ?_⟩)
   (apply est (u := .int _ _) j3; exact Q2; exact L1; exact j2; rfl; rfl; exact kb; rfl)
   refine C1 ?_
   refine C5 (q67 _ (by omega)) rfl rfl rfl ?_
   (refine D7 (by exact Q2) ⟨rfl, C0 ?_⟩)
   (apply est (u := .str _) j3; exact Q2; exact L1; exact j2; rfl; rfl; exact kb; rfl)
   refine C1 ?_
   refine C5 (q67 _ (by omega)) rfl rfl rfl ?_
   (refine D7 (by exact Q2) ⟨rfl, C0 ?_⟩)
   (apply est (u := .str _) j3; exact Q2; exact L1; exact j2; rfl; rfl; exact kb; rfl)
   refine C1 ?_
   refine C5 (q67 _ (by omega)) rfl rfl rfl ?_
   (refine D7 (by exact Q2) ⟨rfl, C0 ?_⟩)
   (apply est (u := .str _) j3; exact Q2; exact L1; exact j2; rfl; rfl; exact kb; rfl)
   refine C1 ?_
   refine H2 fun GG hGG => ?_
   refine C1 ?_
   refine C9 (ih ⟨i + 1, y + 1 + 1 + 1 + 1 + 1 + 1 + 1, _, GG⟩ ⟨by dsimp only; omega, by dsimp only; omega, ?_, ?_, by dsimp only; omega, by dsimp only; rw [hGG]; exact (by repeat first | exact hch | refine Ch.app ?_)⟩ (by dsimp only; omega)) (by (repeat first | exact LE.nil _ | refine LE.unk _ _ ?_ | refine LE.eq _ _ _ rfl ?_)) (LessH.refl _) (Nat.le_refl _)
   ·dsimp only
    rw [← E8 Msg0 hMl (show i < L.length by omega), hgt2, hS]
    apply hback GG
    ·rw [hGG]; simp (disch := (first | omega | assumption)) only [↓app0, ↓appC, ↓updS, ↓updN]; (try simp only [List.set_set, Nat.zero_add]); (try rfl)
    ·intro j hj
     obtain ⟨z0, z1⟩ := hd0 j hj
     rw [hGG]; simp (disch := (first | omega | assumption)) only [↓app0, ↓appC, ↓updS, ↓updN]
    ·exact (OwnR.int (OwnR.int (OwnR.int (OwnR.int (OwnR.str (OwnR.str (OwnR.str OwnR.nil)))))))
   ·dsimp only
    intro j hj hjS
    rw [hS] at hjS
    have hjS' := fun q => hjS (List.mem_cons_of_mem _ q)
    have z0 : j ≠ id := fun q => hjS (by rw [q]; exact List.mem_cons_self)
    rw [hGG]; simp (disch := (first | omega | assumption)) only [↓app0, ↓appC, ↓updS, ↓updN]
    exact hfr j hj (by rw [hS]; exact hjS)
  ·obtain rfl : i = L.length := by omega
   rw [D0] at hyk
   refine T7 rfl hch ⟨by rw [hyk]; rfl, ?_, hfr, hch⟩
   rw [← mix_full hMl]; exact how
theorem om175 (L : List Ct) (k : Int) (hk : 0 ≤ k) (hc : k + (ctL ctCt L : Int) ≤ 1099511627775) {S : List Nat} {v : V} {h : Heap} {n : Nat} (ho : Own h (.sl 44 kCt) S v (.sl false (L.map (Ct.T false)))) (hnd : S.Nodup) (hlt : ∀ j ∈ S, j < n) :
  OpenM En 175 [v, .int .i64 k] h n (fun u g m => u = .int .i64 (k + (ctL ctCt L : Int)) ∧ Own g (.sl 44 kCt) S v (.sl false ((mkL mkCt ctCt k L).map (Ct.T false))) ∧ Fr h n S g ∧ Ch h g) := by
 rcases ho.len0 with ⟨rfl, rfl, he⟩ | ⟨id, R0, B0, hv, hS0, hb0, hle0⟩
 ·obtain rfl := List.map_eq_nil_iff.1 he
  refine OpenM.of_ev (st := []) Tryz.func175 rfl kb ?_
  refine A3 (st := []) ?_
  refine br (fun h => absurd h ((by decide))) ?_
  intro h2_3
  exact T7 rfl (Ch.refl _) ⟨by show V.int .i64 k = V.int .i64 (k + ((0 : Nat) : Int)); rw [show k + ((0 : Nat) : Int) = k by omega], .nil _ _, Fr.refl _ _ _, Ch.refl _⟩
 ·rw [List.length_map] at hv
  subst hv
  have hid : id < n := hlt id (by rw [hS0]; exact List.mem_cons_self)
  have hMl : (mkL mkCt ctCt k L).length = L.length := K4 L k
  have hL : L.length ≤ ctL ctCt L := K6 (fun a => by unfold ctCt; omega) L
  refine OpenM.of_ev (st := [3]) Tryz.func175 rfl kb ?_
  refine A9 (fun (a : MK) => [.view id 0 L.length, .int .i64 a.y, .unk, .unk, .unk, .int .i64 a.i]) (fun (a : MK) => a.g) (fun (a : MK) => a.m) (fun (a : MK) => MkI (Ct.T false) mkCt ctCt 44 kCt L k S (.view id 0 L.length) h n a) (fun (a : MK) => L.length - a.i) ⟨0, k, n, h⟩ ?_ ?_ ?_ ?_ ?_
  ·exact ⟨Nat.zero_le _, by show k = k + ((ctL ctCt [] : Nat) : Int); rw [show ctL ctCt [] = 0 from rfl]; omega, by dsimp only; rw [mix_zero]; exact ho, Fr.refl _ _ _, Nat.le_refl _, Ch.refl _⟩
  ·(repeat first | exact LE.nil _ | refine LE.unk _ _ ?_ | refine LE.eq _ _ _ rfl ?_)
  ·exact LessH.refl _
  ·exact Nat.le_refl _
  intro ⟨i, y, m, g⟩ hI ih
  obtain ⟨hil, hyk, how, hfr, hnm, hch⟩ := hI
  dsimp only at hil hyk how hfr hnm hch ⊢
  have hml := I5 (i := i) hMl hil
  have hcl := G4 (ct := ctCt) L i
  refine A3 (st := [3]) ?_
  refine br ?_ ?_ <;> intro h2_3
  ·obtain ⟨R, S1, Si, S2, r, hb, hS, hRl, hrow, hor, hback⟩ := how.at Ct0 (i := i) (by rw [hml]; omega)
   rw [← Nat.zero_add i] at hrow
   rw [J5 Ct0 hMl (by omega)] at hor
   have hlt2 := E3 (ct := ctCt) Ct0 L i (by omega)
   have hle2 := G4 (ct := ctCt) L (i + 1)
   have hgt2 := K5 (mk := mkCt) (ct := ctCt) Ct0 L k i (by omega)
   rw [← hyk] at hgt2
   revert hor hlt2 hgt2
   generalize L.getD i Ct0 = e
   intro hor hlt2 hgt2
   have hce : ctCt e = 1 + ctL ctMsg e.ps := rfl
   obtain ⟨_, rfl, hor1⟩ := hor.flat_inv
   obtain ⟨P1, Sx1, w1, _, rfl, rfl, o1, hor2⟩ := hor1.cons_inv
   obtain ⟨rfl, rfl⟩ := hor2.nil_inv
   have hnd2 := hnd
   have hlt3 := hlt
   rw [hS] at hnd2 hlt3
   have hRi : i < R.length := by have := hml; omega
   have hd1 : ∀ j ∈ P1, j < n ∧ j ≠ id := fun j hj => ⟨hlt3 j (by simp [hj]), (fun q => F3 hnd2 (A := P1) (B := [id]) hj (by rw [q]; exact List.mem_singleton.2 rfl) (by simp only [List.count_cons, List.count_append, List.count_nil]; omega))⟩
   have hi1 : id ∉ P1 := fun q => F3 hnd2 (A := [id]) (B := P1) (List.mem_singleton.2 rfl) q (by simp only [List.count_cons, List.count_append, List.count_nil]; omega)
   have np1 : P1.Nodup := ndp hnd2 fun j => by simp only [List.count_cons, List.count_append, List.count_nil]; omega
   have hd0 : ∀ j, j ∈ S1 ∨ j ∈ S2 → j < n ∧ j ≠ id ∧ j ∉ P1 := fun j hj => by
    rcases hj with hj | hj
    ·exact ⟨hlt3 j (by simp [hj]), (fun q => F3 hnd2 (A := S1) (B := [id]) hj (by rw [q]; exact List.mem_singleton.2 rfl) (by simp only [List.count_cons, List.count_append, List.count_nil]; omega)), (fun q => F3 hnd2 (A := S1) (B := P1) hj q (by simp only [List.count_cons, List.count_append, List.count_nil]; omega))⟩
    ·exact ⟨hlt3 j (by simp [hj]), (fun q => F3 hnd2 (A := S2) (B := [id]) hj (by rw [q]; exact List.mem_singleton.2 rfl) (by simp only [List.count_cons, List.count_append, List.count_nil]; omega)), (fun q => F3 hnd2 (A := S2) (B := P1) hj q (by simp only [List.count_cons, List.count_append, List.count_nil]; omega))⟩
   refine C5 (q67 _ (by omega)) rfl rfl rfl ?_
   (refine D7 (by exact Q2) ⟨rfl, C0 ?_⟩)
   (apply est (u := .str _) j3; exact Q2; exact L1; exact j2; rfl; rfl; exact kb; rfl)
   refine C1 ?_
   (refine D7 (by exact Q2) ⟨rfl, C0 ?_⟩)
   refine A2 ?_ (by exact Q2) (by exact L1)
   refine AI o1.slv ?_
   refine E9 (om19 e.ps (y + 1) (by omega) (by omega) (o1.congr (fun j hj => by
    obtain ⟨z0, z1⟩ := hd1 j hj
    simp (disch := (first | omega | assumption)) only [↓app0, ↓appC, ↓updS, ↓updN])) np1 (fun j hj => by have := (hd1 j hj).1; omega)) rfl j2 ?_
   rintro v1 wr1 m1 ⟨rfl, p1, hf1, ch1⟩ hle1
   unfold Fr at hf1
   have hb1 := (hf1 id (by omega) hi1).trans (by simp (disch := (first | omega | assumption)) only [↓app0, ↓appC, ↓updS, ↓updN]; rfl)
   refine H2 fun GG hGG => ?_
   refine C1 ?_
   refine C9 (ih ⟨i + 1, y + 1 + (ctL ctMsg e.ps : Int), _, GG⟩ ⟨by dsimp only; omega, by dsimp only; omega, ?_, ?_, by dsimp only; omega, by dsimp only; rw [hGG]; exact (by repeat first | exact hch | refine Ch.app ?_)⟩ (by dsimp only; omega)) (by (repeat first | exact LE.nil _ | refine LE.unk _ _ ?_ | refine LE.eq _ _ _ rfl ?_)) (LessH.refl _) (Nat.le_refl _)
   ·dsimp only
    rw [← E8 Ct0 hMl (show i < L.length by omega), hgt2, hS]
    apply hback GG
    ·rw [hGG]; simp (disch := (first | omega | assumption)) only [↓app0, ↓appC, ↓updS, ↓updN, ↓hb1]; (try simp only [List.set_set, Nat.zero_add]); (try rfl)
    ·intro j hj
     obtain ⟨z0, z1, z2⟩ := hd0 j hj
     rw [hGG]; simp (disch := (first | omega | assumption)) only [↓app0, ↓appC, ↓updS, ↓updN, ↓hf1]
    ·exact (OwnR.str (.cons _ _ P1 _ _ _ _ _ (p1.congr (fun j hj => by
     obtain ⟨z0, z1⟩ := hd1 j hj
     rw [hGG]; try simp (disch := (first | omega | assumption)) only [↓app0, ↓appC, ↓updS, ↓updN])) OwnR.nil))
   ·dsimp only
    intro j hj hjS
    rw [hS] at hjS
    have hjS' := fun q => hjS (List.mem_cons_of_mem _ q)
    have z0 : j ≠ id := fun q => hjS (by rw [q]; exact List.mem_cons_self)
    have z1 : j ∉ P1 := fun q => hjS' (by simp [q])
    rw [hGG]; simp (disch := (first | omega | assumption)) only [↓app0, ↓appC, ↓updS, ↓updN, ↓hf1]
    exact hfr j hj (by rw [hS]; exact hjS)
  ·obtain rfl : i = L.length := by omega
   rw [D0] at hyk
   refine T7 rfl hch ⟨by rw [hyk]; rfl, ?_, hfr, hch⟩
   rw [← mix_full hMl]; exact how
theorem om174 (L : List Slt) (k : Int) (hk : 0 ≤ k) (hc : k + (ctL ctSlt L : Int) ≤ 1099511627775) {S : List Nat} {v : V} {h : Heap} {n : Nat} (ho : Own h (.sl 80 kSlt) S v (.sl false (L.map Slt.T))) (hnd : S.Nodup) (hlt : ∀ j ∈ S, j < n) :
  OpenM En 174 [v, .int .i64 k] h n (fun u g m => u = .int .i64 (k + (ctL ctSlt L : Int)) ∧ Own g (.sl 80 kSlt) S v (.sl false ((mkL mkSlt ctSlt k L).map Slt.T)) ∧ Fr h n S g ∧ Ch h g) := by
 rcases ho.len0 with ⟨rfl, rfl, he⟩ | ⟨id, R0, B0, hv, hS0, hb0, hle0⟩
 ·obtain rfl := List.map_eq_nil_iff.1 he
  refine OpenM.of_ev (st := []) Tryz.func174 rfl kb ?_
  refine A3 (st := []) ?_
  refine br (fun h => absurd h ((by decide))) ?_
  intro h2_3
  exact T7 rfl (Ch.refl _) ⟨by show V.int .i64 k = V.int .i64 (k + ((0 : Nat) : Int)); rw [show k + ((0 : Nat) : Int) = k by omega], .nil _ _, Fr.refl _ _ _, Ch.refl _⟩
 ·rw [List.length_map] at hv
  subst hv
  have hid : id < n := hlt id (by rw [hS0]; exact List.mem_cons_self)
  have hMl : (mkL mkSlt ctSlt k L).length = L.length := K4 L k
  have hL : L.length ≤ ctL ctSlt L := K6 (fun a => by unfold ctSlt; omega) L
  refine OpenM.of_ev (st := [3]) Tryz.func174 rfl kb ?_
  refine A9 (fun (a : MK) => [.view id 0 L.length, .int .i64 a.y, .unk, .unk, .unk, .int .i64 a.i]) (fun (a : MK) => a.g) (fun (a : MK) => a.m) (fun (a : MK) => MkI Slt.T mkSlt ctSlt 80 kSlt L k S (.view id 0 L.length) h n a) (fun (a : MK) => L.length - a.i) ⟨0, k, n, h⟩ ?_ ?_ ?_ ?_ ?_
  ·exact ⟨Nat.zero_le _, by show k = k + ((ctL ctSlt [] : Nat) : Int); rw [show ctL ctSlt [] = 0 from rfl]; omega, by dsimp only; rw [mix_zero]; exact ho, Fr.refl _ _ _, Nat.le_refl _, Ch.refl _⟩
  ·(repeat first | exact LE.nil _ | refine LE.unk _ _ ?_ | refine LE.eq _ _ _ rfl ?_)
  ·exact LessH.refl _
  ·exact Nat.le_refl _
  intro ⟨i, y, m, g⟩ hI ih
  obtain ⟨hil, hyk, how, hfr, hnm, hch⟩ := hI
  dsimp only at hil hyk how hfr hnm hch ⊢
  have hml := I5 (i := i) hMl hil
  have hcl := G4 (ct := ctSlt) L i
  refine A3 (st := [3]) ?_
  refine br ?_ ?_ <;> intro h2_3
  ·obtain ⟨R, S1, Si, S2, r, hb, hS, hRl, hrow, hor, hback⟩ := how.at Slt0 (i := i) (by rw [hml]; omega)
   rw [← Nat.zero_add i] at hrow
   rw [J5 Slt0 hMl (by omega)] at hor
   have hlt2 := E3 (ct := ctSlt) Slt0 L i (by omega)
   have hle2 := G4 (ct := ctSlt) L (i + 1)
   have hgt2 := K5 (mk := mkSlt) (ct := ctSlt) Slt0 L k i (by omega)
   rw [← hyk] at hgt2
   revert hor hlt2 hgt2
   generalize L.getD i Slt0 = e
   intro hor hlt2 hgt2
   have hce : ctSlt e = 1 + ctL ctMsg e.pr + ctL ctMsg e.cm + 1 + 1 := rfl
   obtain ⟨_, rfl, hor1⟩ := hor.flat_inv
   obtain ⟨P1, Sx1, w1, _, rfl, rfl, o1, hor2⟩ := hor1.cons_inv
   obtain ⟨P2, Sx2, w2, _, rfl, rfl, o2, hor3⟩ := hor2.cons_inv
   obtain ⟨_, rfl, hor4⟩ := hor3.flat_inv
   obtain ⟨_, rfl, hor5⟩ := hor4.flat_inv
   obtain ⟨rfl, rfl⟩ := hor5.nil_inv
   have hnd2 := hnd
   have hlt3 := hlt
   rw [hS] at hnd2 hlt3
   have hRi : i < R.length := by have := hml; omega
   have hd1 : ∀ j ∈ P1, j < n ∧ j ≠ id ∧ j ∉ P2 := fun j hj => ⟨hlt3 j (by simp [hj]), (fun q => F3 hnd2 (A := P1) (B := [id]) hj (by rw [q]; exact List.mem_singleton.2 rfl) (by simp only [List.count_cons, List.count_append, List.count_nil]; omega)), (fun q => F3 hnd2 (A := P1) (B := P2) hj q (by simp only [List.count_cons, List.count_append, List.count_nil]; omega))⟩
   have hi1 : id ∉ P1 := fun q => F3 hnd2 (A := [id]) (B := P1) (List.mem_singleton.2 rfl) q (by simp only [List.count_cons, List.count_append, List.count_nil]; omega)
   have np1 : P1.Nodup := ndp hnd2 fun j => by simp only [List.count_cons, List.count_append, List.count_nil]; omega
   have hd2 : ∀ j ∈ P2, j < n ∧ j ≠ id ∧ j ∉ P1 := fun j hj => ⟨hlt3 j (by simp [hj]), (fun q => F3 hnd2 (A := P2) (B := [id]) hj (by rw [q]; exact List.mem_singleton.2 rfl) (by simp only [List.count_cons, List.count_append, List.count_nil]; omega)), (fun q => F3 hnd2 (A := P2) (B := P1) hj q (by simp only [List.count_cons, List.count_append, List.count_nil]; omega))⟩
   have hi2 : id ∉ P2 := fun q => F3 hnd2 (A := [id]) (B := P2) (List.mem_singleton.2 rfl) q (by simp only [List.count_cons, List.count_append, List.count_nil]; omega)
   have np2 : P2.Nodup := ndp hnd2 fun j => by simp only [List.count_cons, List.count_append, List.count_nil]; omega
   have hd0 : ∀ j, j ∈ S1 ∨ j ∈ S2 → j < n ∧ j ≠ id ∧ j ∉ P1 ∧ j ∉ P2 := fun j hj => by
    rcases hj with hj | hj
    ·exact ⟨hlt3 j (by simp [hj]), (fun q => F3 hnd2 (A := S1) (B := [id]) hj (by rw [q]; exact List.mem_singleton.2 rfl) (by simp only [List.count_cons, List.count_append, List.count_nil]; omega)), (fun q => F3 hnd2 (A := S1) (B := P1) hj q (by simp only [List.count_cons, List.count_append, List.count_nil]; omega)), (fun q => F3 hnd2 (A := S1) (B := P2) hj q (by simp only [List.count_cons, List.count_append, List.count_nil]; omega))⟩
    ·exact ⟨hlt3 j (by simp [hj]), (fun q => F3 hnd2 (A := S2) (B := [id]) hj (by rw [q]; exact List.mem_singleton.2 rfl) (by simp only [List.count_cons, List.count_append, List.count_nil]; omega)), (fun q => F3 hnd2 (A := S2) (B := P1) hj q (by simp only [List.count_cons, List.count_append, List.count_nil]; omega)), (fun q => F3 hnd2 (A := S2) (B := P2) hj q (by simp only [List.count_cons, List.count_append, List.count_nil]; omega))⟩
   refine C5 (q67 _ (by omega)) rfl rfl rfl ?_
   (refine D7 (by exact Q2) ⟨rfl, C0 ?_⟩)
   (apply est (u := .str _) j3; exact Q2; exact L1; exact j2; rfl; rfl; exact kb; rfl)
   refine C1 ?_
   (refine D7 (by exact Q2) ⟨rfl, C0 ?_⟩)
   refine A2 ?_ (by exact Q2) (by exact L1)
   refine AI o1.slv ?_
   refine E9 (om19 e.pr (y + 1) (by omega) (by omega) (o1.congr (fun j hj => by
    obtain ⟨z0, z1, z2⟩ := hd1 j hj
    simp (disch := (first | omega | assumption)) only [↓app0, ↓appC, ↓updS, ↓updN])) np1 (fun j hj => by have := (hd1 j hj).1; omega)) rfl j2 ?_
   rintro v1 wr1 m1 ⟨rfl, p1, hf1, ch1⟩ hle1
   unfold Fr at hf1
   have hb1 := (hf1 id (by omega) hi1).trans (by simp (disch := (first | omega | assumption)) only [↓app0, ↓appC, ↓updS, ↓updN]; rfl)
   (refine D7 (by exact Q2) ⟨rfl, C0 ?_⟩)
   refine A2 ?_ (by exact Q2) (by exact L1)
   refine AI o2.slv ?_
   refine E9 (om19 e.cm (y + 1 + (ctL ctMsg e.pr : Int)) (by omega) (by omega) (o2.congr (fun j hj => by
    obtain ⟨z0, z1, z2⟩ := hd2 j hj
    simp (disch := (first | omega | assumption)) only [↓app0, ↓appC, ↓updS, ↓updN, ↓hf1])) np2 (fun j hj => by have := (hd2 j hj).1; omega)) rfl j2 ?_
   rintro v2 wr2 m2 ⟨rfl, p2, hf2, ch2⟩ hle2
   unfold Fr at hf2
   have hb2 := (hf2 id (by omega) hi2).trans (by simp (disch := (first | omega | assumption)) only [↓app0, ↓appC, ↓updS, ↓updN, ↓hb1]; rfl)
   refine C0 ?_
   refine br ?_ ?_ <;> intro h8_4
   ·(refine D7 (by exact Q2) ⟨rfl, C0 ?_⟩)
    (apply est (u := .bool _) j3; exact Q2; exact L1; exact j2; rfl; rfl; exact kb; rfl)
    refine C1 ?_
    refine C0 ?_
    refine br ?_ ?_ <;> intro h10_4
    ·(refine D7 (by exact Q2) ⟨rfl, C0 ?_⟩)
     (apply est (u := .bool _) j3; exact Q2; exact L1; exact j2; rfl; rfl; exact kb; rfl)
     refine C1 ?_
     refine H2 fun GG hGG => ?_
     refine C1 ?_
     refine C9 (ih ⟨i + 1, y + 1 + (ctL ctMsg e.pr : Int) + (ctL ctMsg e.cm : Int) + 1 + 1, _, GG⟩ ⟨by dsimp only; omega, by dsimp only; omega, ?_, ?_, by dsimp only; omega, by dsimp only; rw [hGG]; exact (by repeat first | exact hch | refine Ch.app ?_)⟩ (by dsimp only; omega)) (by (repeat first | exact LE.nil _ | refine LE.unk _ _ ?_ | refine LE.eq _ _ _ rfl ?_)) (LessH.refl _) (Nat.le_refl _)
     ·dsimp only
      rw [← E8 Slt0 hMl (show i < L.length by omega), hgt2, hS]
      apply hback GG
      ·rw [hGG]; simp (disch := (first | omega | assumption)) only [↓app0, ↓appC, ↓updS, ↓updN, ↓hb1, ↓hb2]; (try simp only [List.set_set, Nat.zero_add]); (try rfl)
      ·intro j hj
       obtain ⟨z0, z1, z2, z3⟩ := hd0 j hj
       rw [hGG]; simp (disch := (first | omega | assumption)) only [↓app0, ↓appC, ↓updS, ↓updN, ↓hf1, ↓hf2]
      ·exact (OwnR.str (.cons _ _ P1 _ _ _ _ _ (p1.congr (fun j hj => by
       obtain ⟨z0, z1, z2⟩ := hd1 j hj
       rw [hGG]; try simp (disch := (first | omega | assumption)) only [↓app0, ↓appC, ↓updS, ↓updN, ↓hf2])) (.cons _ _ P2 _ _ _ _ _ (p2.congr (fun j hj => by
       obtain ⟨z0, z1, z2⟩ := hd2 j hj
       rw [hGG]; try simp (disch := (first | omega | assumption)) only [↓app0, ↓appC, ↓updS, ↓updN])) (OwnR.boolE (by first | exact mb_t (by assumption) | exact mb_f (by assumption)) (OwnR.boolE (by first | exact mb_t (by assumption) | exact mb_f (by assumption)) OwnR.nil)))))
     ·dsimp only
      intro j hj hjS
      rw [hS] at hjS
      have hjS' := fun q => hjS (List.mem_cons_of_mem _ q)
      have z0 : j ≠ id := fun q => hjS (by rw [q]; exact List.mem_cons_self)
      have z1 : j ∉ P1 := fun q => hjS' (by simp [q])
      have z2 : j ∉ P2 := fun q => hjS' (by simp [q])
      rw [hGG]; simp (disch := (first | omega | assumption)) only [↓app0, ↓appC, ↓updS, ↓updN, ↓hf1, ↓hf2]
      exact hfr j hj (by rw [hS]; exact hjS)
    ·(refine D7 (by exact Q2) ⟨rfl, C0 ?_⟩)
     (apply est (u := .bool _) j3; exact Q2; exact L1; exact j2; rfl; rfl; exact kb; rfl)
     refine C1 ?_
     refine H2 fun GG hGG => ?_
     refine C1 ?_
     refine C9 (ih ⟨i + 1, y + 1 + (ctL ctMsg e.pr : Int) + (ctL ctMsg e.cm : Int) + 1 + 1, _, GG⟩ ⟨by dsimp only; omega, by dsimp only; omega, ?_, ?_, by dsimp only; omega, by dsimp only; rw [hGG]; exact (by repeat first | exact hch | refine Ch.app ?_)⟩ (by dsimp only; omega)) (by (repeat first | exact LE.nil _ | refine LE.unk _ _ ?_ | refine LE.eq _ _ _ rfl ?_)) (LessH.refl _) (Nat.le_refl _)
     ·dsimp only
      rw [← E8 Slt0 hMl (show i < L.length by omega), hgt2, hS]
      apply hback GG
      ·rw [hGG]; simp (disch := (first | omega | assumption)) only [↓app0, ↓appC, ↓updS, ↓updN, ↓hb1, ↓hb2]; (try simp only [List.set_set, Nat.zero_add]); (try rfl)
      ·intro j hj
       obtain ⟨z0, z1, z2, z3⟩ := hd0 j hj
       rw [hGG]; simp (disch := (first | omega | assumption)) only [↓app0, ↓appC, ↓updS, ↓updN, ↓hf1, ↓hf2]
      ·exact (OwnR.str (.cons _ _ P1 _ _ _ _ _ (p1.congr (fun j hj => by
       obtain ⟨z0, z1, z2⟩ := hd1 j hj
       rw [hGG]; try simp (disch := (first | omega | assumption)) only [↓app0, ↓appC, ↓updS, ↓updN, ↓hf2])) (.cons _ _ P2 _ _ _ _ _ (p2.congr (fun j hj => by
       obtain ⟨z0, z1, z2⟩ := hd2 j hj
       rw [hGG]; try simp (disch := (first | omega | assumption)) only [↓app0, ↓appC, ↓updS, ↓updN])) (OwnR.boolE (by first | exact mb_t (by assumption) | exact mb_f (by assumption)) (OwnR.boolE (by first | exact mb_t (by assumption) | exact mb_f (by assumption)) OwnR.nil)))))
     ·dsimp only
      intro j hj hjS
      rw [hS] at hjS
      have hjS' := fun q => hjS (List.mem_cons_of_mem _ q)
      have z0 : j ≠ id := fun q => hjS (by rw [q]; exact List.mem_cons_self)
      have z1 : j ∉ P1 := fun q => hjS' (by simp [q])
      have z2 : j ∉ P2 := fun q => hjS' (by simp [q])
      rw [hGG]; simp (disch := (first | omega | assumption)) only [↓app0, ↓appC, ↓updS, ↓updN, ↓hf1, ↓hf2]
      exact hfr j hj (by rw [hS]; exact hjS)
   ·(refine D7 (by exact Q2) ⟨rfl, C0 ?_⟩)
    (apply est (u := .bool _) j3; exact Q2; exact L1; exact j2; rfl; rfl; exact kb; rfl)
    refine C1 ?_
    refine C0 ?_
    refine br ?_ ?_ <;> intro h10_4
    ·(refine D7 (by exact Q2) ⟨rfl, C0 ?_⟩)
     (apply est (u := .bool _) j3; exact Q2; exact L1; exact j2; rfl; rfl; exact kb; rfl)
     refine C1 ?_
     refine H2 fun GG hGG => ?_
     refine C1 ?_
     refine C9 (ih ⟨i + 1, y + 1 + (ctL ctMsg e.pr : Int) + (ctL ctMsg e.cm : Int) + 1 + 1, _, GG⟩ ⟨by dsimp only; omega, by dsimp only; omega, ?_, ?_, by dsimp only; omega, by dsimp only; rw [hGG]; exact (by repeat first | exact hch | refine Ch.app ?_)⟩ (by dsimp only; omega)) (by (repeat first | exact LE.nil _ | refine LE.unk _ _ ?_ | refine LE.eq _ _ _ rfl ?_)) (LessH.refl _) (Nat.le_refl _)
     ·dsimp only
      rw [← E8 Slt0 hMl (show i < L.length by omega), hgt2, hS]
      apply hback GG
      ·rw [hGG]; simp (disch := (first | omega | assumption)) only [↓app0, ↓appC, ↓updS, ↓updN, ↓hb1, ↓hb2]; (try simp only [List.set_set, Nat.zero_add]); (try rfl)
      ·intro j hj
       obtain ⟨z0, z1, z2, z3⟩ := hd0 j hj
       rw [hGG]; simp (disch := (first | omega | assumption)) only [↓app0, ↓appC, ↓updS, ↓updN, ↓hf1, ↓hf2]
      ·exact (OwnR.str (.cons _ _ P1 _ _ _ _ _ (p1.congr (fun j hj => by
       obtain ⟨z0, z1, z2⟩ := hd1 j hj
       rw [hGG]; try simp (disch := (first | omega | assumption)) only [↓app0, ↓appC, ↓updS, ↓updN, ↓hf2])) (.cons _ _ P2 _ _ _ _ _ (p2.congr (fun j hj => by
       obtain ⟨z0, z1, z2⟩ := hd2 j hj
       rw [hGG]; try simp (disch := (first | omega | assumption)) only [↓app0, ↓appC, ↓updS, ↓updN])) (OwnR.boolE (by first | exact mb_t (by assumption) | exact mb_f (by assumption)) (OwnR.boolE (by first | exact mb_t (by assumption) | exact mb_f (by assumption)) OwnR.nil)))))
     ·dsimp only
      intro j hj hjS
      rw [hS] at hjS
      have hjS' := fun q => hjS (List.mem_cons_of_mem _ q)
      have z0 : j ≠ id := fun q => hjS (by rw [q]; exact List.mem_cons_self)
      have z1 : j ∉ P1 := fun q => hjS' (by simp [q])
      have z2 : j ∉ P2 := fun q => hjS' (by simp [q])
      rw [hGG]; simp (disch := (first | omega | assumption)) only [↓app0, ↓appC, ↓updS, ↓updN, ↓hf1, ↓hf2]
      exact hfr j hj (by rw [hS]; exact hjS)
    ·(refine D7 (by exact Q2) ⟨rfl, C0 ?_⟩)
     (apply est (u := .bool _) j3; exact Q2; exact L1; exact j2; rfl; rfl; exact kb; rfl)
     refine C1 ?_
     refine H2 fun GG hGG => ?_
     refine C1 ?_
     refine C9 (ih ⟨i + 1, y + 1 + (ctL ctMsg e.pr : Int) + (ctL ctMsg e.cm : Int) + 1 + 1, _, GG⟩ ⟨by dsimp only; omega, by dsimp only; omega, ?_, ?_, by dsimp only; omega, by dsimp only; rw [hGG]; exact (by repeat first | exact hch | refine Ch.app ?_)⟩ (by dsimp only; omega)) (by (repeat first | exact LE.nil _ | refine LE.unk _ _ ?_ | refine LE.eq _ _ _ rfl ?_)) (LessH.refl _) (Nat.le_refl _)
     ·dsimp only
      rw [← E8 Slt0 hMl (show i < L.length by omega), hgt2, hS]
      apply hback GG
      ·rw [hGG]; simp (disch := (first | omega | assumption)) only [↓app0, ↓appC, ↓updS, ↓updN, ↓hb1, ↓hb2]; (try simp only [List.set_set, Nat.zero_add]); (try rfl)
      ·intro j hj
       obtain ⟨z0, z1, z2, z3⟩ := hd0 j hj
       rw [hGG]; simp (disch := (first | omega | assumption)) only [↓app0, ↓appC, ↓updS, ↓updN, ↓hf1, ↓hf2]
      ·exact (OwnR.str (.cons _ _ P1 _ _ _ _ _ (p1.congr (fun j hj => by
       obtain ⟨z0, z1, z2⟩ := hd1 j hj
       rw [hGG]; try simp (disch := (first | omega | assumption)) only [↓app0, ↓appC, ↓updS, ↓updN, ↓hf2])) (.cons _ _ P2 _ _ _ _ _ (p2.congr (fun j hj => by
       obtain ⟨z0, z1, z2⟩ := hd2 j hj
       rw [hGG]; try simp (disch := (first | omega | assumption)) only [↓app0, ↓appC, ↓updS, ↓updN])) (OwnR.boolE (by first | exact mb_t (by assumption) | exact mb_f (by assumption)) (OwnR.boolE (by first | exact mb_t (by assumption) | exact mb_f (by assumption)) OwnR.nil)))))
     ·dsimp only
      intro j hj hjS
      rw [hS] at hjS
      have hjS' := fun q => hjS (List.mem_cons_of_mem _ q)
      have z0 : j ≠ id := fun q => hjS (by rw [q]; exact List.mem_cons_self)
      have z1 : j ∉ P1 := fun q => hjS' (by simp [q])
      have z2 : j ∉ P2 := fun q => hjS' (by simp [q])
      rw [hGG]; simp (disch := (first | omega | assumption)) only [↓app0, ↓appC, ↓updS, ↓updN, ↓hf1, ↓hf2]
      exact hfr j hj (by rw [hS]; exact hjS)
  ·obtain rfl : i = L.length := by omega
   rw [D0] at hyk
   refine T7 rfl hch ⟨by rw [hyk]; rfl, ?_, hfr, hch⟩
   rw [← mix_full hMl]; exact how
theorem om112 (L : List Rep) (k : Int) (hk : 0 ≤ k) (hc : k + (ctL ctRep L : Int) ≤ 1099511627775) {S : List Nat} {v : V} {h : Heap} {n : Nat} (ho : Own h (.sl 54 kRep) S v (.sl false (L.map Rep.T))) (hnd : S.Nodup) (hlt : ∀ j ∈ S, j < n) :
  OpenM En 112 [v, .int .i64 k] h n (fun u g m => u = .int .i64 (k + (ctL ctRep L : Int)) ∧ Own g (.sl 54 kRep) S v (.sl false ((mkL mkRep ctRep k L).map Rep.T)) ∧ Fr h n S g ∧ Ch h g) := by
 rcases ho.len0 with ⟨rfl, rfl, he⟩ | ⟨id, R0, B0, hv, hS0, hb0, hle0⟩
 ·obtain rfl := List.map_eq_nil_iff.1 he
  refine OpenM.of_ev (st := []) Tryz.func112 rfl kb ?_
  refine A3 (st := []) ?_
  refine br (fun h => absurd h ((by decide))) ?_
  intro h2_3
  exact T7 rfl (Ch.refl _) ⟨by show V.int .i64 k = V.int .i64 (k + ((0 : Nat) : Int)); rw [show k + ((0 : Nat) : Int) = k by omega], .nil _ _, Fr.refl _ _ _, Ch.refl _⟩
 ·rw [List.length_map] at hv
  subst hv
  have hid : id < n := hlt id (by rw [hS0]; exact List.mem_cons_self)
  have hMl : (mkL mkRep ctRep k L).length = L.length := K4 L k
  have hL : L.length ≤ ctL ctRep L := K6 (fun a => by unfold ctRep; omega) L
  refine OpenM.of_ev (st := [3]) Tryz.func112 rfl kb ?_
  refine A9 (fun (a : MK) => [.view id 0 L.length, .int .i64 a.y, .unk, .unk, .unk, .int .i64 a.i]) (fun (a : MK) => a.g) (fun (a : MK) => a.m) (fun (a : MK) => MkI Rep.T mkRep ctRep 54 kRep L k S (.view id 0 L.length) h n a) (fun (a : MK) => L.length - a.i) ⟨0, k, n, h⟩ ?_ ?_ ?_ ?_ ?_
  ·exact ⟨Nat.zero_le _, by show k = k + ((ctL ctRep [] : Nat) : Int); rw [show ctL ctRep [] = 0 from rfl]; omega, by dsimp only; rw [mix_zero]; exact ho, Fr.refl _ _ _, Nat.le_refl _, Ch.refl _⟩
  ·(repeat first | exact LE.nil _ | refine LE.unk _ _ ?_ | refine LE.eq _ _ _ rfl ?_)
  ·exact LessH.refl _
  ·exact Nat.le_refl _
  intro ⟨i, y, m, g⟩ hI ih
  obtain ⟨hil, hyk, how, hfr, hnm, hch⟩ := hI
  dsimp only at hil hyk how hfr hnm hch ⊢
  have hml := I5 (i := i) hMl hil
  have hcl := G4 (ct := ctRep) L i
  refine A3 (st := [3]) ?_
  refine br ?_ ?_ <;> intro h2_3
  ·obtain ⟨R, S1, Si, S2, r, hb, hS, hRl, hrow, hor, hback⟩ := how.at Rep0 (i := i) (by rw [hml]; omega)
   rw [← Nat.zero_add i] at hrow
   rw [J5 Rep0 hMl (by omega)] at hor
   have hlt2 := E3 (ct := ctRep) Rep0 L i (by omega)
   have hle2 := G4 (ct := ctRep) L (i + 1)
   have hgt2 := K5 (mk := mkRep) (ct := ctRep) Rep0 L k i (by omega)
   rw [← hyk] at hgt2
   revert hor hlt2 hgt2
   generalize L.getD i Rep0 = e
   intro hor hlt2 hgt2
   have hce : ctRep e = 1 + 1 + 1 + 1 + ctL ctSlt e.sl + ctL ctCt e.cs + ctL ctByteArray e.lg + ctL ctMsg e.ch := rfl
   obtain ⟨_, rfl, hor1⟩ := hor.flat_inv
   obtain ⟨_, rfl, hor2⟩ := hor1.flat_inv
   obtain ⟨_, rfl, hor3⟩ := hor2.flat_inv
   obtain ⟨_, rfl, hor4⟩ := hor3.flat_inv
   obtain ⟨P1, Sx1, w1, _, rfl, rfl, o1, hor5⟩ := hor4.cons_inv
   obtain ⟨P2, Sx2, w2, _, rfl, rfl, o2, hor6⟩ := hor5.cons_inv
   obtain ⟨P3, Sx3, w3, _, rfl, rfl, o3, hor7⟩ := hor6.cons_inv
   obtain ⟨P4, Sx4, w4, _, rfl, rfl, o4, hor8⟩ := hor7.cons_inv
   obtain ⟨rfl, rfl⟩ := hor8.nil_inv
   have hnd2 := hnd
   have hlt3 := hlt
   rw [hS] at hnd2 hlt3
   have hRi : i < R.length := by have := hml; omega
   have hd1 : ∀ j ∈ P1, j < n ∧ j ≠ id ∧ j ∉ P2 ∧ j ∉ P3 ∧ j ∉ P4 := fun j hj => ⟨hlt3 j (by simp [hj]), (fun q => F3 hnd2 (A := P1) (B := [id]) hj (by rw [q]; exact List.mem_singleton.2 rfl) (by simp only [List.count_cons, List.count_append, List.count_nil]; omega)), (fun q => F3 hnd2 (A := P1) (B := P2) hj q (by simp only [List.count_cons, List.count_append, List.count_nil]; omega)), (fun q => F3 hnd2 (A := P1) (B := P3) hj q (by simp only [List.count_cons, List.count_append, List.count_nil]; omega)), (fun q => F3 hnd2 (A := P1) (B := P4) hj q (by simp only [List.count_cons, List.count_append, List.count_nil]; omega))⟩
   have hi1 : id ∉ P1 := fun q => F3 hnd2 (A := [id]) (B := P1) (List.mem_singleton.2 rfl) q (by simp only [List.count_cons, List.count_append, List.count_nil]; omega)
   have np1 : P1.Nodup := ndp hnd2 fun j => by simp only [List.count_cons, List.count_append, List.count_nil]; omega
   have hd2 : ∀ j ∈ P2, j < n ∧ j ≠ id ∧ j ∉ P1 ∧ j ∉ P3 ∧ j ∉ P4 := fun j hj => ⟨hlt3 j (by simp [hj]), (fun q => F3 hnd2 (A := P2) (B := [id]) hj (by rw [q]; exact List.mem_singleton.2 rfl) (by simp only [List.count_cons, List.count_append, List.count_nil]; omega)), (fun q => F3 hnd2 (A := P2) (B := P1) hj q (by simp only [List.count_cons, List.count_append, List.count_nil]; omega)), (fun q => F3 hnd2 (A := P2) (B := P3) hj q (by simp only [List.count_cons, List.count_append, List.count_nil]; omega)), (fun q => F3 hnd2 (A := P2) (B := P4) hj q (by simp only [List.count_cons, List.count_append, List.count_nil]; omega))⟩
   have hi2 : id ∉ P2 := fun q => F3 hnd2 (A := [id]) (B := P2) (List.mem_singleton.2 rfl) q (by simp only [List.count_cons, List.count_append, List.count_nil]; omega)
   have np2 : P2.Nodup := ndp hnd2 fun j => by simp only [List.count_cons, List.count_append, List.count_nil]; omega
   have hd3 : ∀ j ∈ P3, j < n ∧ j ≠ id ∧ j ∉ P1 ∧ j ∉ P2 ∧ j ∉ P4 := fun j hj => ⟨hlt3 j (by simp [hj]), (fun q => F3 hnd2 (A := P3) (B := [id]) hj (by rw [q]; exact List.mem_singleton.2 rfl) (by simp only [List.count_cons, List.count_append, List.count_nil]; omega)), (fun q => F3 hnd2 (A := P3) (B := P1) hj q (by simp only [List.count_cons, List.count_append, List.count_nil]; omega)), (fun q => F3 hnd2 (A := P3) (B := P2) hj q (by simp only [List.count_cons, List.count_append, List.count_nil]; omega)), (fun q => F3 hnd2 (A := P3) (B := P4) hj q (by simp only [List.count_cons, List.count_append, List.count_nil]; omega))⟩
   have hi3 : id ∉ P3 := fun q => F3 hnd2 (A := [id]) (B := P3) (List.mem_singleton.2 rfl) q (by simp only [List.count_cons, List.count_append, List.count_nil]; omega)
   have np3 : P3.Nodup := ndp hnd2 fun j => by simp only [List.count_cons, List.count_append, List.count_nil]; omega
   have hd4 : ∀ j ∈ P4, j < n ∧ j ≠ id ∧ j ∉ P1 ∧ j ∉ P2 ∧ j ∉ P3 := fun j hj => ⟨hlt3 j (by simp [hj]), (fun q => F3 hnd2 (A := P4) (B := [id]) hj (by rw [q]; exact List.mem_singleton.2 rfl) (by simp only [List.count_cons, List.count_append, List.count_nil]; omega)), (fun q => F3 hnd2 (A := P4) (B := P1) hj q (by simp only [List.count_cons, List.count_append, List.count_nil]; omega)), (fun q => F3 hnd2 (A := P4) (B := P2) hj q (by simp only [List.count_cons, List.count_append, List.count_nil]; omega)), (fun q => F3 hnd2 (A := P4) (B := P3) hj q (by simp only [List.count_cons, List.count_append, List.count_nil]; omega))⟩
   have hi4 : id ∉ P4 := fun q => F3 hnd2 (A := [id]) (B := P4) (List.mem_singleton.2 rfl) q (by simp only [List.count_cons, List.count_append, List.count_nil]; omega)
   have np4 : P4.Nodup := ndp hnd2 fun j => by simp only [List.count_cons, List.count_append, List.count_nil]; omega
   have hd0 : ∀ j, j ∈ S1 ∨ j ∈ S2 → j < n ∧ j ≠ id ∧ j ∉ P1 ∧ j ∉ P2 ∧ j ∉ P3 ∧ j ∉ P4 := fun j hj => by
    rcases hj with hj | hj
    ·exact ⟨hlt3 j (by simp [hj]), (fun q => F3 hnd2 (A := S1) (B := [id]) hj (by rw [q]; exact List.mem_singleton.2 rfl) (by simp only [List.count_cons, List.count_append, List.count_nil]; omega)), (fun q => F3 hnd2 (A := S1) (B := P1) hj q (by simp only [List.count_cons, List.count_append, List.count_nil]; omega)), (fun q => F3 hnd2 (A := S1) (B := P2) hj q (by simp only [List.count_cons, List.count_append, List.count_nil]; omega)), (fun q => F3 hnd2 (A := S1) (B := P3) hj q (by simp only [List.count_cons, List.count_append, List.count_nil]; omega)), (fun q => F3 hnd2 (A := S1) (B := P4) hj q (by simp only [List.count_cons, List.count_append, List.count_nil]; omega))⟩
    ·exact ⟨hlt3 j (by simp [hj]), (fun q => F3 hnd2 (A := S2) (B := [id]) hj (by rw [q]; exact List.mem_singleton.2 rfl) (by simp only [List.count_cons, List.count_append, List.count_nil]; omega)), (fun q => F3 hnd2 (A := S2) (B := P1) hj q (by simp only [List.count_cons, List.count_append, List.count_nil]; omega)), (fun q => F3 hnd2 (A := S2) (B := P2) hj q (by simp only [List.count_cons, List.count_append, List.count_nil]; omega)), (fun q => F3 hnd2 (A := S2) (B := P3) hj q (by simp only [List.count_cons, List.count_append, List.count_nil]; omega)), (fun q => F3 hnd2 (A := S2) (B := P4) hj q (by simp only [List.count_cons, List.count_append, List.count_nil]; omega))⟩
   (refine D7 (by exact Q2) ⟨rfl, C0 ?_⟩)
   (apply est (u := .int _ _) j3; exact Q2; exact L1; exact j2; rfl; rfl; exact kb; rfl)
   refine C1 ?_
   (refine D7 (by exact Q2) ⟨rfl, C0 ?_⟩)
   (apply est (u := .int _ _) j3; exact Q2; exact L1; exact j2; rfl; rfl; exact kb; rfl)
   refine C1 ?_
   (refine D7 (by exact Q2) ⟨rfl, C0 ?_⟩)
   (apply est (u := .int _ _) j3; exact Q2; exact L1; exact j2; rfl; rfl; exact kb; rfl)
   refine C1 ?_
   refine C0 ?_
   refine br ?_ ?_ <;> intro h10_4
   ·(refine D7 (by exact Q2) ⟨rfl, C0 ?_⟩)
    (apply est (u := .bool _) j3; exact Q2; exact L1; exact j2; rfl; rfl; exact kb; rfl)
    refine C1 ?_
    (refine D7 (by exact Q2) ⟨rfl, C0 ?_⟩)
    refine A2 ?_ (by exact Q2) (by exact L1)
    refine AI o1.slv ?_
    refine E9 (om174 e.sl (y + 1 + 1 + 1 + 1) (by omega) (by omega) (o1.congr (fun j hj => by
     obtain ⟨z0, z1, z2, z3, z4⟩ := hd1 j hj
     simp (disch := (first | omega | assumption)) only [↓app0, ↓appC, ↓updS, ↓updN])) np1 (fun j hj => by have := (hd1 j hj).1; omega)) rfl j2 ?_
    rintro v1 wr1 m1 ⟨rfl, p1, hf1, ch1⟩ hle1
    unfold Fr at hf1
    have hb1 := (hf1 id (by omega) hi1).trans (by simp (disch := (first | omega | assumption)) only [↓app0, ↓appC, ↓updS, ↓updN]; rfl)
    (refine D7 (by exact Q2) ⟨rfl, C0 ?_⟩)
    refine A2 ?_ (by exact Q2) (by exact L1)
    refine AI o2.slv ?_
    refine E9 (om175 e.cs (y + 1 + 1 + 1 + 1 + (ctL ctSlt e.sl : Int)) (by omega) (by omega) (o2.congr (fun j hj => by
     obtain ⟨z0, z1, z2, z3, z4⟩ := hd2 j hj
     simp (disch := (first | omega | assumption)) only [↓app0, ↓appC, ↓updS, ↓updN, ↓hf1])) np2 (fun j hj => by have := (hd2 j hj).1; omega)) rfl j2 ?_
    rintro v2 wr2 m2 ⟨rfl, p2, hf2, ch2⟩ hle2
    unfold Fr at hf2
    have hb2 := (hf2 id (by omega) hi2).trans (by simp (disch := (first | omega | assumption)) only [↓app0, ↓appC, ↓updS, ↓updN, ↓hb1]; rfl)
    (refine D7 (by exact Q2) ⟨rfl, C0 ?_⟩)
    refine A2 ?_ (by exact Q2) (by exact L1)
    refine AI o3.slv ?_
    refine E9 (om20 e.lg (y + 1 + 1 + 1 + 1 + (ctL ctSlt e.sl : Int) + (ctL ctCt e.cs : Int)) (by omega) (by omega) (o3.congr (fun j hj => by
     obtain ⟨z0, z1, z2, z3, z4⟩ := hd3 j hj
     simp (disch := (first | omega | assumption)) only [↓app0, ↓appC, ↓updS, ↓updN, ↓hf1, ↓hf2])) np3 (fun j hj => by have := (hd3 j hj).1; omega)) rfl j2 ?_
    rintro v3 wr3 m3 ⟨rfl, p3, hf3, ch3⟩ hle3
    unfold Fr at hf3
    have hb3 := (hf3 id (by omega) hi3).trans (by simp (disch := (first | omega | assumption)) only [↓app0, ↓appC, ↓updS, ↓updN, ↓hb1, ↓hb2]; rfl)
    (refine D7 (by exact Q2) ⟨rfl, C0 ?_⟩)
    refine A2 ?_ (by exact Q2) (by exact L1)
    refine AI o4.slv ?_
    refine E9 (om19 e.ch (y + 1 + 1 + 1 + 1 + (ctL ctSlt e.sl : Int) + (ctL ctCt e.cs : Int) + (ctL ctByteArray e.lg : Int)) (by omega) (by omega) (o4.congr (fun j hj => by
     obtain ⟨z0, z1, z2, z3, z4⟩ := hd4 j hj
     simp (disch := (first | omega | assumption)) only [↓app0, ↓appC, ↓updS, ↓updN, ↓hf1, ↓hf2, ↓hf3])) np4 (fun j hj => by have := (hd4 j hj).1; omega)) rfl j2 ?_
    rintro v4 wr4 m4 ⟨rfl, p4, hf4, ch4⟩ hle4
    unfold Fr at hf4
    have hb4 := (hf4 id (by omega) hi4).trans (by simp (disch := (first | omega | assumption)) only [↓app0, ↓appC, ↓updS, ↓updN, ↓hb1, ↓hb2, ↓hb3]; rfl)
    refine H2 fun GG hGG => ?_
    refine C1 ?_
    refine C9 (ih ⟨i + 1, y + 1 + 1 + 1 + 1 + (ctL ctSlt e.sl : Int) + (ctL ctCt e.cs : Int) + (ctL ctByteArray e.lg : Int) + (ctL ctMsg e.ch : Int), _, GG⟩ ⟨by dsimp only; omega, by dsimp only; omega, ?_, ?_, by dsimp only; omega, by dsimp only; rw [hGG]; exact (by repeat first | exact hch | refine Ch.app ?_)⟩ (by dsimp only; omega)) (by (repeat first | exact LE.nil _ | refine LE.unk _ _ ?_ | refine LE.eq _ _ _ rfl ?_)) (LessH.refl _) (Nat.le_refl _)
    ·dsimp only
     rw [← E8 Rep0 hMl (show i < L.length by omega), hgt2, hS]
     apply hback GG
     ·rw [hGG]; simp (disch := (first | omega | assumption)) only [↓app0, ↓appC, ↓updS, ↓updN, ↓hb1, ↓hb2, ↓hb3, ↓hb4]; (try simp only [List.set_set, Nat.zero_add]); (try rfl)
     ·intro j hj
      obtain ⟨z0, z1, z2, z3, z4, z5⟩ := hd0 j hj
      rw [hGG]; simp (disch := (first | omega | assumption)) only [↓app0, ↓appC, ↓updS, ↓updN, ↓hf1, ↓hf2, ↓hf3, ↓hf4]
     ·exact (OwnR.int (OwnR.int (OwnR.int (OwnR.boolE (by first | exact mb_t (by assumption) | exact mb_f (by assumption)) (.cons _ _ P1 _ _ _ _ _ (p1.congr (fun j hj => by
      obtain ⟨z0, z1, z2, z3, z4⟩ := hd1 j hj
      rw [hGG]; try simp (disch := (first | omega | assumption)) only [↓app0, ↓appC, ↓updS, ↓updN, ↓hf2, ↓hf3, ↓hf4])) (.cons _ _ P2 _ _ _ _ _ (p2.congr (fun j hj => by
      obtain ⟨z0, z1, z2, z3, z4⟩ := hd2 j hj
      rw [hGG]; try simp (disch := (first | omega | assumption)) only [↓app0, ↓appC, ↓updS, ↓updN, ↓hf3, ↓hf4])) (.cons _ _ P3 _ _ _ _ _ (p3.congr (fun j hj => by
      obtain ⟨z0, z1, z2, z3, z4⟩ := hd3 j hj
      rw [hGG]; try simp (disch := (first | omega | assumption)) only [↓app0, ↓appC, ↓updS, ↓updN, ↓hf4])) (.cons _ _ P4 _ _ _ _ _ (p4.congr (fun j hj => by
      obtain ⟨z0, z1, z2, z3, z4⟩ := hd4 j hj
      rw [hGG]; try simp (disch := (first | omega | assumption)) only [↓app0, ↓appC, ↓updS, ↓updN])) OwnR.nil))))))))
    ·dsimp only
     intro j hj hjS
     rw [hS] at hjS
     have hjS' := fun q => hjS (List.mem_cons_of_mem _ q)
     have z0 : j ≠ id := fun q => hjS (by rw [q]; exact List.mem_cons_self)
     have z1 : j ∉ P1 := fun q => hjS' (by simp [q])
     have z2 : j ∉ P2 := fun q => hjS' (by simp [q])
     have z3 : j ∉ P3 := fun q => hjS' (by simp [q])
     have z4 : j ∉ P4 := fun q => hjS' (by simp [q])
     rw [hGG]; simp (disch := (first | omega | assumption)) only [↓app0, ↓appC, ↓updS, ↓updN, ↓hf1, ↓hf2, ↓hf3, ↓hf4]
     exact hfr j hj (by rw [hS]; exact hjS)
   ·(refine D7 (by exact Q2) ⟨rfl, C0 ?_⟩)
    (apply est (u := .bool _) j3; exact Q2; exact L1; exact j2; rfl; rfl; exact kb; rfl)
    refine C1 ?_
    (refine D7 (by exact Q2) ⟨rfl, C0 ?_⟩)
    refine A2 ?_ (by exact Q2) (by exact L1)
    refine AI o1.slv ?_
    refine E9 (om174 e.sl (y + 1 + 1 + 1 + 1) (by omega) (by omega) (o1.congr (fun j hj => by
     obtain ⟨z0, z1, z2, z3, z4⟩ := hd1 j hj
     simp (disch := (first | omega | assumption)) only [↓app0, ↓appC, ↓updS, ↓updN])) np1 (fun j hj => by have := (hd1 j hj).1; omega)) rfl j2 ?_
    rintro v1 wr1 m1 ⟨rfl, p1, hf1, ch1⟩ hle1
    unfold Fr at hf1
    have hb1 := (hf1 id (by omega) hi1).trans (by simp (disch := (first | omega | assumption)) only [↓app0, ↓appC, ↓updS, ↓updN]; rfl)
    (refine D7 (by exact Q2) ⟨rfl, C0 ?_⟩)
    refine A2 ?_ (by exact Q2) (by exact L1)
    refine AI o2.slv ?_
    refine E9 (om175 e.cs (y + 1 + 1 + 1 + 1 + (ctL ctSlt e.sl : Int)) (by omega) (by omega) (o2.congr (fun j hj => by
     obtain ⟨z0, z1, z2, z3, z4⟩ := hd2 j hj
     simp (disch := (first | omega | assumption)) only [↓app0, ↓appC, ↓updS, ↓updN, ↓hf1])) np2 (fun j hj => by have := (hd2 j hj).1; omega)) rfl j2 ?_
    rintro v2 wr2 m2 ⟨rfl, p2, hf2, ch2⟩ hle2
    unfold Fr at hf2
    have hb2 := (hf2 id (by omega) hi2).trans (by simp (disch := (first | omega | assumption)) only [↓app0, ↓appC, ↓updS, ↓updN, ↓hb1]; rfl)
    (refine D7 (by exact Q2) ⟨rfl, C0 ?_⟩)
    refine A2 ?_ (by exact Q2) (by exact L1)
    refine AI o3.slv ?_
    refine E9 (om20 e.lg (y + 1 + 1 + 1 + 1 + (ctL ctSlt e.sl : Int) + (ctL ctCt e.cs : Int)) (by omega) (by omega) (o3.congr (fun j hj => by
     obtain ⟨z0, z1, z2, z3, z4⟩ := hd3 j hj
     simp (disch := (first | omega | assumption)) only [↓app0, ↓appC, ↓updS, ↓updN, ↓hf1, ↓hf2])) np3 (fun j hj => by have := (hd3 j hj).1; omega)) rfl j2 ?_
    rintro v3 wr3 m3 ⟨rfl, p3, hf3, ch3⟩ hle3
    unfold Fr at hf3
    have hb3 := (hf3 id (by omega) hi3).trans (by simp (disch := (first | omega | assumption)) only [↓app0, ↓appC, ↓updS, ↓updN, ↓hb1, ↓hb2]; rfl)
    (refine D7 (by exact Q2) ⟨rfl, C0 ?_⟩)
    refine A2 ?_ (by exact Q2) (by exact L1)
    refine AI o4.slv ?_
    refine E9 (om19 e.ch (y + 1 + 1 + 1 + 1 + (ctL ctSlt e.sl : Int) + (ctL ctCt e.cs : Int) + (ctL ctByteArray e.lg : Int)) (by omega) (by omega) (o4.congr (fun j hj => by
     obtain ⟨z0, z1, z2, z3, z4⟩ := hd4 j hj
     simp (disch := (first | omega | assumption)) only [↓app0, ↓appC, ↓updS, ↓updN, ↓hf1, ↓hf2, ↓hf3])) np4 (fun j hj => by have := (hd4 j hj).1; omega)) rfl j2 ?_
    rintro v4 wr4 m4 ⟨rfl, p4, hf4, ch4⟩ hle4
    unfold Fr at hf4
    have hb4 := (hf4 id (by omega) hi4).trans (by simp (disch := (first | omega | assumption)) only [↓app0, ↓appC, ↓updS, ↓updN, ↓hb1, ↓hb2, ↓hb3]; rfl)
    refine H2 fun GG hGG => ?_
    refine C1 ?_
    refine C9 (ih ⟨i + 1, y + 1 + 1 + 1 + 1 + (ctL ctSlt e.sl : Int) + (ctL ctCt e.cs : Int) + (ctL ctByteArray e.lg : Int) + (ctL ctMsg e.ch : Int), _, GG⟩ ⟨by dsimp only; omega, by dsimp only; omega, ?_, ?_, by dsimp only; omega, by dsimp only; rw [hGG]; exact (by repeat first | exact hch | refine Ch.app ?_)⟩ (by dsimp only; omega)) (by (repeat first | exact LE.nil _ | refine LE.unk _ _ ?_ | refine LE.eq _ _ _ rfl ?_)) (LessH.refl _) (Nat.le_refl _)
    ·dsimp only
     rw [← E8 Rep0 hMl (show i < L.length by omega), hgt2, hS]
     apply hback GG
     ·rw [hGG]; simp (disch := (first | omega | assumption)) only [↓app0, ↓appC, ↓updS, ↓updN, ↓hb1, ↓hb2, ↓hb3, ↓hb4]; (try simp only [List.set_set, Nat.zero_add]); (try rfl)
     ·intro j hj
      obtain ⟨z0, z1, z2, z3, z4, z5⟩ := hd0 j hj
      rw [hGG]; simp (disch := (first | omega | assumption)) only [↓app0, ↓appC, ↓updS, ↓updN, ↓hf1, ↓hf2, ↓hf3, ↓hf4]
     ·exact (OwnR.int (OwnR.int (OwnR.int (OwnR.boolE (by first | exact mb_t (by assumption) | exact mb_f (by assumption)) (.cons _ _ P1 _ _ _ _ _ (p1.congr (fun j hj => by
      obtain ⟨z0, z1, z2, z3, z4⟩ := hd1 j hj
      rw [hGG]; try simp (disch := (first | omega | assumption)) only [↓app0, ↓appC, ↓updS, ↓updN, ↓hf2, ↓hf3, ↓hf4])) (.cons _ _ P2 _ _ _ _ _ (p2.congr (fun j hj => by
      obtain ⟨z0, z1, z2, z3, z4⟩ := hd2 j hj
      rw [hGG]; try simp (disch := (first | omega | assumption)) only [↓app0, ↓appC, ↓updS, ↓updN, ↓hf3, ↓hf4])) (.cons _ _ P3 _ _ _ _ _ (p3.congr (fun j hj => by
      obtain ⟨z0, z1, z2, z3, z4⟩ := hd3 j hj
      rw [hGG]; try simp (disch := (first | omega | assumption)) only [↓app0, ↓appC, ↓updS, ↓updN, ↓hf4])) (.cons _ _ P4 _ _ _ _ _ (p4.congr (fun j hj => by
      obtain ⟨z0, z1, z2, z3, z4⟩ := hd4 j hj
      rw [hGG]; try simp (disch := (first | omega | assumption)) only [↓app0, ↓appC, ↓updS, ↓updN])) OwnR.nil))))))))
    ·dsimp only
     intro j hj hjS
     rw [hS] at hjS
     have hjS' := fun q => hjS (List.mem_cons_of_mem _ q)
     have z0 : j ≠ id := fun q => hjS (by rw [q]; exact List.mem_cons_self)
     have z1 : j ∉ P1 := fun q => hjS' (by simp [q])
     have z2 : j ∉ P2 := fun q => hjS' (by simp [q])
     have z3 : j ∉ P3 := fun q => hjS' (by simp [q])
     have z4 : j ∉ P4 := fun q => hjS' (by simp [q])
     rw [hGG]; simp (disch := (first | omega | assumption)) only [↓app0, ↓appC, ↓updS, ↓updN, ↓hf1, ↓hf2, ↓hf3, ↓hf4]
     exact hfr j hj (by rw [hS]; exact hjS)
  ·obtain rfl : i = L.length := by omega
   rw [D0] at hyk
   refine T7 rfl hch ⟨by rw [hyk]; rfl, ?_, hfr, hch⟩
   rw [← mix_full hMl]; exact how
theorem om113 (L : List Pc) (k : Int) (hk : 0 ≤ k) (hc : k + (ctL ctPc L : Int) ≤ 1099511627775) {S : List Nat} {v : V} {h : Heap} {n : Nat} (ho : Own h (.sl 130 kPc) S v (.sl false (L.map Pc.T))) (hnd : S.Nodup) (hlt : ∀ j ∈ S, j < n) :
  OpenM En 113 [v, .int .i64 k] h n (fun u g m => u = .int .i64 (k + (ctL ctPc L : Int)) ∧ Own g (.sl 130 kPc) S v (.sl false ((mkL mkPc ctPc k L).map Pc.T)) ∧ Fr h n S g ∧ Ch h g) := by
 rcases ho.len0 with ⟨rfl, rfl, he⟩ | ⟨id, R0, B0, hv, hS0, hb0, hle0⟩
 ·obtain rfl := List.map_eq_nil_iff.1 he
  refine OpenM.of_ev (st := []) Tryz.func113 rfl kb ?_
  refine A3 (st := []) ?_
  refine br (fun h => absurd h ((by decide))) ?_
  intro h2_3
  exact T7 rfl (Ch.refl _) ⟨by show V.int .i64 k = V.int .i64 (k + ((0 : Nat) : Int)); rw [show k + ((0 : Nat) : Int) = k by omega], .nil _ _, Fr.refl _ _ _, Ch.refl _⟩
 ·rw [List.length_map] at hv
  subst hv
  have hid : id < n := hlt id (by rw [hS0]; exact List.mem_cons_self)
  have hMl : (mkL mkPc ctPc k L).length = L.length := K4 L k
  have hL : L.length ≤ ctL ctPc L := K6 (fun a => by unfold ctPc; omega) L
  refine OpenM.of_ev (st := [3]) Tryz.func113 rfl kb ?_
  refine A9 (fun (a : MK) => [.view id 0 L.length, .int .i64 a.y, .unk, .unk, .unk, .int .i64 a.i]) (fun (a : MK) => a.g) (fun (a : MK) => a.m) (fun (a : MK) => MkI Pc.T mkPc ctPc 130 kPc L k S (.view id 0 L.length) h n a) (fun (a : MK) => L.length - a.i) ⟨0, k, n, h⟩ ?_ ?_ ?_ ?_ ?_
  ·exact ⟨Nat.zero_le _, by show k = k + ((ctL ctPc [] : Nat) : Int); rw [show ctL ctPc [] = 0 from rfl]; omega, by dsimp only; rw [mix_zero]; exact ho, Fr.refl _ _ _, Nat.le_refl _, Ch.refl _⟩
  ·(repeat first | exact LE.nil _ | refine LE.unk _ _ ?_ | refine LE.eq _ _ _ rfl ?_)
  ·exact LessH.refl _
  ·exact Nat.le_refl _
  intro ⟨i, y, m, g⟩ hI ih
  obtain ⟨hil, hyk, how, hfr, hnm, hch⟩ := hI
  dsimp only at hil hyk how hfr hnm hch ⊢
  have hml := I5 (i := i) hMl hil
  have hcl := G4 (ct := ctPc) L i
  refine A3 (st := [3]) ?_
  refine br ?_ ?_ <;> intro h2_3
  ·obtain ⟨R, S1, Si, S2, r, hb, hS, hRl, hrow, hor, hback⟩ := how.at Pc0 (i := i) (by rw [hml]; omega)
   rw [← Nat.zero_add i] at hrow
   rw [J5 Pc0 hMl (by omega)] at hor
   have hlt2 := E3 (ct := ctPc) Pc0 L i (by omega)
   have hle2 := G4 (ct := ctPc) L (i + 1)
   have hgt2 := K5 (mk := mkPc) (ct := ctPc) Pc0 L k i (by omega)
   rw [← hyk] at hgt2
   revert hor hlt2 hgt2
   generalize L.getD i Pc0 = e
   intro hor hlt2 hgt2
   have hce : ctPc e = 1 + 1 + 1 + 1 + 1 + 1 + 1 + 1 := rfl
   obtain ⟨_, rfl, hor1⟩ := hor.flat_inv
   obtain ⟨_, rfl, hor2⟩ := hor1.flat_inv
   obtain ⟨_, rfl, hor3⟩ := hor2.flat_inv
   obtain ⟨_, rfl, hor4⟩ := hor3.flat_inv
   obtain ⟨_, rfl, hor5⟩ := hor4.flat_inv
   obtain ⟨_, rfl, hor6⟩ := hor5.flat_inv
   obtain ⟨_, rfl, hor7⟩ := hor6.flat_inv
   obtain ⟨_, rfl, hor8⟩ := hor7.flat_inv
   obtain ⟨rfl, rfl⟩ := hor8.nil_inv
   have hnd2 := hnd
   have hlt3 := hlt
   rw [hS] at hnd2 hlt3
   have hRi : i < R.length := by have := hml; omega
   have hd0 : ∀ j, j ∈ S1 ∨ j ∈ S2 → j < n ∧ j ≠ id := fun j hj => by
    rcases hj with hj | hj
    ·exact ⟨hlt3 j (by simp [hj]), (fun q => F3 hnd2 (A := S1) (B := [id]) hj (by rw [q]; exact List.mem_singleton.2 rfl) (by simp only [List.count_cons, List.count_append, List.count_nil]; omega))⟩
    ·exact ⟨hlt3 j (by simp [hj]), (fun q => F3 hnd2 (A := S2) (B := [id]) hj (by rw [q]; exact List.mem_singleton.2 rfl) (by simp only [List.count_cons, List.count_append, List.count_nil]; omega))⟩
   (refine D7 (by exact Q2) ⟨rfl, C0 ?_⟩)
   (apply est (u := .int _ _) j3; exact Q2; exact L1; exact j2; rfl; rfl; exact kb; rfl)
   refine C1 ?_
   (refine D7 (by exact Q2) ⟨rfl, C0 ?_⟩)
   (apply est (u := .int _ _) j3; exact Q2; exact L1; exact j2; rfl; rfl; exact kb; rfl)
   refine C1 ?_
   (refine D7 (by exact Q2) ⟨rfl, C0 ?_⟩)
   (apply est (u := .int _ _) j3; exact Q2; exact L1; exact j2; rfl; rfl; exact kb; rfl)
   refine C1 ?_
   (refine D7 (by exact Q2) ⟨rfl, C0 ?_⟩)
   (apply est (u := .int _ _) j3; exact Q2; exact L1; exact j2; rfl; rfl; exact kb; rfl)
   refine C1 ?_
   (refine D7 (by exact Q2) ⟨rfl, C0 ?_⟩)
   (apply est (u := .int _ _) j3; exact Q2; exact L1; exact j2; rfl; rfl; exact kb; rfl)
   refine C1 ?_
   refine C5 (q67 _ (by omega)) rfl rfl rfl ?_
   (refine D7 (by exact Q2) ⟨rfl, C0 ?_⟩)
   (apply est (u := .str _) j3; exact Q2; exact L1; exact j2; rfl; rfl; exact kb; rfl)
   refine C1 ?_
   refine C5 (q67 _ (by omega)) rfl rfl rfl ?_
   (refine D7 (by exact Q2) ⟨rfl, C0 ?_⟩)
   (apply est (u := .str _) j3; exact Q2; exact L1; exact j2; rfl; rfl; exact kb; rfl)
   refine C1 ?_
   refine C5 (q67 _ (by omega)) rfl rfl rfl ?_
   (refine D7 (by exact Q2) ⟨rfl, C0 ?_⟩)
   (apply est (u := .str _) j3; exact Q2; exact L1; exact j2; rfl; rfl; exact kb; rfl)
   refine C1 ?_
   refine H2 fun GG hGG => ?_
   refine C1 ?_
   refine C9 (ih ⟨i + 1, y + 1 + 1 + 1 + 1 + 1 + 1 + 1 + 1, _, GG⟩ ⟨by dsimp only; omega, by dsimp only; omega, ?_, ?_, by dsimp only; omega, by dsimp only; rw [hGG]; exact (by repeat first | exact hch | refine Ch.app ?_)⟩ (by dsimp only; omega)) (by (repeat first | exact LE.nil _ | refine LE.unk _ _ ?_ | refine LE.eq _ _ _ rfl ?_)) (LessH.refl _) (Nat.le_refl _)
   ·dsimp only
    rw [← E8 Pc0 hMl (show i < L.length by omega), hgt2, hS]
    apply hback GG
    ·rw [hGG]; simp (disch := (first | omega | assumption)) only [↓app0, ↓appC, ↓updS, ↓updN]; (try simp only [List.set_set, Nat.zero_add]); (try rfl)
    ·intro j hj
     obtain ⟨z0, z1⟩ := hd0 j hj
     rw [hGG]; simp (disch := (first | omega | assumption)) only [↓app0, ↓appC, ↓updS, ↓updN]
    ·exact (OwnR.int (OwnR.int (OwnR.int (OwnR.int (OwnR.int (OwnR.str (OwnR.str (OwnR.str OwnR.nil))))))))
   ·dsimp only
    intro j hj hjS
    rw [hS] at hjS
    have hjS' := fun q => hjS (List.mem_cons_of_mem _ q)
    have z0 : j ≠ id := fun q => hjS (by rw [q]; exact List.mem_cons_self)
    rw [hGG]; simp (disch := (first | omega | assumption)) only [↓app0, ↓appC, ↓updS, ↓updN]
    exact hfr j hj (by rw [hS]; exact hjS)
  ·obtain rfl : i = L.length := by omega
   rw [D0] at hyk
   refine T7 rfl hch ⟨by rw [hyk]; rfl, ?_, hfr, hch⟩
   rw [← mix_full hMl]; exact how
open Go Go.V
set_option linter.unusedVariables false
set_option linter.unusedSimpArgs false
set_option maxRecDepth 20000
set_option maxHeartbeats 4000000
theorem lc73 (L : List ByteArray) (k : Int) (hk : 0 ≤ k ∧ k ≤ 1048576) (hb : TB 9223372036854775807 (.sl false (L.map tT))) : ∃ x : Int, ((-1 ≤ x ∧ x ≤ k) ∧ (0 ≤ x → TB 1048576 (.sl false (L.map tT)) ∧ (ctL ctByteArray L : Int) ≤ 16 * (k - x))) ∧ Pure En 73 [.one (.sl false (L.map tT)), .one (.int .i64 k)] [.one (.int .i64 x)] := by
 have hl : (L.map tT).length = L.length := List.length_map ..
 obtain ⟨hm, hs⟩ := (B9 tT (⟨#[]⟩ : ByteArray)).1 hb
 refine Pure.of_evX (st := []) Tryz.func73 rfl kb ?_
 refine C1 ?_
 refine br ?_ ?_ <;> intro h2_1
 ·first | exact ⟨-1, ⟨by omega, fun h => by omega⟩, C2 rfl rfl⟩ | (obtain rfl : i = L.length := (by omega); rw [D0] at q2; exact ⟨a1, ⟨by omega, fun _ => ⟨(B9 tT (⟨#[]⟩ : ByteArray)).2 ⟨by omega, fun j hj => q3 j (by omega)⟩, by omega⟩⟩, C2 rfl rfl⟩)
 ·refine D4 (fun (a : Nat × Int) => [.sl false false (L.map tT), .int .i64 a.2, .unk, .unk, .unk, .int .i64 a.1]) (fun (a : Nat × Int) => a.1 ≤ L.length ∧ (0 ≤ a.2 ∧ a.2 ≤ k - L.length) ∧ (ctL ctByteArray (L.take a.1) : Int) ≤ 16 * a.1 + 16 * (k - L.length - a.2) ∧ ∀ j, j < a.1 → TBs 1048576 (tT (L.getD j (⟨#[]⟩ : ByteArray)))) (fun (a : Nat × Int) => L.length - a.1) (0, k - (L.map tT).length) ?_ ?_ ?_
  ·exact ⟨Nat.zero_le _, by dsimp only; omega, by show ((ctL ctByteArray [] : Nat) : Int) ≤ _; rw [show ctL ctByteArray [] = 0 from rfl]; dsimp only; omega, fun j hj => absurd hj (Nat.not_lt_zero j)⟩
  ·(repeat first | exact LE.nil _ | refine LE.unk _ _ ?_ | refine LE.eq _ _ _ rfl ?_)
  intro ⟨i, a1⟩ hI ih
  obtain ⟨q0, q1, q2, q3⟩ := hI
  dsimp only at q0 q1 q2 q3 ⊢
  have hlt2 := fun q => E3 (ct := ctByteArray) (⟨#[]⟩ : ByteArray) L i q
  have hz : i < L.length → (L.getD i (⟨#[]⟩ : ByteArray)).size ≤ 9223372036854775807 := fun hi => O1.1 (F0.1 (hs i hi)).1
  have hzz : (L.getD ((i : Int)).toNat (⟨#[]⟩ : ByteArray)).size = (L.getD i (⟨#[]⟩ : ByteArray)).size := rfl
  refine A3 (st := []) ?_
  refine br ?_ ?_ <;> intro h5_3
  ·(refine C0 (D1 (by first | rfl | assumption | (exact B6 tT (⟨#[]⟩ : ByteArray) (by omega))) rfl ?_))
   refine C1 ?_
   refine br ?_ ?_ <;> intro h8_1
   ·first | exact ⟨-1, ⟨by omega, fun h => by omega⟩, C2 rfl rfl⟩ | (obtain rfl : i = L.length := (by omega); rw [D0] at q2; exact ⟨a1, ⟨by omega, fun _ => ⟨(B9 tT (⟨#[]⟩ : ByteArray)).2 ⟨by omega, fun j hj => q3 j (by omega)⟩, by omega⟩⟩, C2 rfl rfl⟩)
   ·refine C1 ?_
    have hl3 := hlt2 (by omega)
    have c1 : ctByteArray (L.getD i ⟨#[]⟩) = 1 := rfl
    exact T5 (ih (i + 1, (a1 - (L.getD i (⟨#[]⟩ : ByteArray)).size)) ⟨by dsimp only; omega, by dsimp only; omega, by dsimp only; omega, fun j hj => by
     by_cases e : j = i
     ·subst e; exact F0.2 ⟨O1.2 (by omega), I4.2 trivial⟩
     ·exact q3 j (by dsimp only at hj; omega)⟩ (by dsimp only; omega)) (by (repeat first | exact LE.nil _ | refine LE.unk _ _ ?_ | refine LE.eq _ _ _ rfl ?_))
  ·first | exact ⟨-1, ⟨by omega, fun h => by omega⟩, C2 rfl rfl⟩ | (obtain rfl : i = L.length := (by omega); rw [D0] at q2; exact ⟨a1, ⟨by omega, fun _ => ⟨(B9 tT (⟨#[]⟩ : ByteArray)).2 ⟨by omega, fun j hj => q3 j (by omega)⟩, by omega⟩⟩, C2 rfl rfl⟩)
theorem lc89 (L : List Int) (k : Int) (hk : 0 ≤ k ∧ k ≤ 1048576) (hb : TB 9223372036854775807 (.sl false (L.map iT))) : ∃ x : Int, ((-1 ≤ x ∧ x ≤ k) ∧ (0 ≤ x → TB 1048576 (.sl false (L.map iT)) ∧ (ctL ctInt L : Int) ≤ 16 * (k - x))) ∧ Pure En 89 [.one (.sl false (L.map iT)), .one (.int .i64 k)] [.one (.int .i64 x)] := by
 have hl : (L.map iT).length = L.length := List.length_map ..
 obtain ⟨hm, hs⟩ := (B9 iT (0 : Int)).1 hb
 refine Pure.of_evX (st := []) Tryz.func89 rfl kb ?_
 refine C1 ?_
 refine br ?_ ?_ <;> intro h2_1
 ·first | exact ⟨-1, ⟨by omega, fun h => by omega⟩, C2 rfl rfl⟩ | exact ⟨_, ⟨by omega, fun hx => ⟨(B9 iT (0 : Int)).2 ⟨by omega, fun j hj => by simp only [iT, F0, I4, O0, J8, true_and]⟩, by rw [V6 (ct := ctInt) (c := 1) (fun a => rfl)]; omega⟩⟩, C2 rfl rfl⟩
 ·first | exact ⟨-1, ⟨by omega, fun h => by omega⟩, C2 rfl rfl⟩ | exact ⟨_, ⟨by omega, fun hx => ⟨(B9 iT (0 : Int)).2 ⟨by omega, fun j hj => by simp only [iT, F0, I4, O0, J8, true_and]⟩, by rw [V6 (ct := ctInt) (c := 1) (fun a => rfl)]; omega⟩⟩, C2 rfl rfl⟩
theorem lc56 (s : Msg) (k : Int) (hk : 0 ≤ k ∧ k ≤ 1048576) (hb : TBs 9223372036854775807 (Msg.T s)) : ∃ x : Int, ((-1 ≤ x ∧ x ≤ k) ∧ (0 ≤ x → TBs 1048576 (Msg.T s) ∧ (ctMsg s : Int) ≤ 16 + 16 * (k - x))) ∧ Pure En 56 [.agg (Msg.T s), .one (.int .i64 k)] [.one (.int .i64 x)] := by
 obtain ⟨b0, b1, b2⟩ := Msg.tb.1 hb
 refine Pure.of_evX (st := []) Tryz.func56 rfl kb ?_
 refine A2 ?_
 refine C1 ?_
 refine br ?_ ?_ <;> intro h2_1
 ·first | exact ⟨-1, ⟨by omega, fun h => by omega⟩, C2 rfl rfl⟩ | exact ⟨_, ⟨by omega, fun hx => ⟨Msg.tb.2 ⟨by omega, by omega, by omega⟩, by unfold ctMsg; omega⟩⟩, C2 rfl rfl⟩
 ·refine A2 ?_
  refine C1 ?_
  refine br ?_ ?_ <;> intro h5_1
  ·first | exact ⟨-1, ⟨by omega, fun h => by omega⟩, C2 rfl rfl⟩ | exact ⟨_, ⟨by omega, fun hx => ⟨Msg.tb.2 ⟨by omega, by omega, by omega⟩, by unfold ctMsg; omega⟩⟩, C2 rfl rfl⟩
  ·refine A2 ?_
   refine C1 ?_
   refine br ?_ ?_ <;> intro h8_1
   ·first | exact ⟨-1, ⟨by omega, fun h => by omega⟩, C2 rfl rfl⟩ | exact ⟨_, ⟨by omega, fun hx => ⟨Msg.tb.2 ⟨by omega, by omega, by omega⟩, by unfold ctMsg; omega⟩⟩, C2 rfl rfl⟩
   ·first | exact ⟨-1, ⟨by omega, fun h => by omega⟩, C2 rfl rfl⟩ | exact ⟨_, ⟨by omega, fun hx => ⟨Msg.tb.2 ⟨by omega, by omega, by omega⟩, by unfold ctMsg; omega⟩⟩, C2 rfl rfl⟩
theorem lc13 (L : List Msg) (k : Int) (hk : 0 ≤ k ∧ k ≤ 1048576) (hb : TB 9223372036854775807 (.sl false (L.map Msg.T))) : ∃ x : Int, ((-1 ≤ x ∧ x ≤ k) ∧ (0 ≤ x → TB 1048576 (.sl false (L.map Msg.T)) ∧ (ctL ctMsg L : Int) ≤ 16 * (k - x))) ∧ Pure En 13 [.one (.sl false (L.map Msg.T)), .one (.int .i64 k)] [.one (.int .i64 x)] := by
 have hl : (L.map Msg.T).length = L.length := List.length_map ..
 obtain ⟨hm, hs⟩ := (B9 Msg.T Msg0).1 hb
 refine Pure.of_evX (st := []) Tryz.func13 rfl kb ?_
 refine C1 ?_
 refine br ?_ ?_ <;> intro h2_1
 ·first | exact ⟨-1, ⟨by omega, fun h => by omega⟩, C2 rfl rfl⟩ | (obtain rfl : i = L.length := (by omega); rw [D0] at q2; exact ⟨a1, ⟨by omega, fun _ => ⟨(B9 Msg.T Msg0).2 ⟨by omega, fun j hj => q3 j (by omega)⟩, by omega⟩⟩, C2 rfl rfl⟩)
 ·refine D4 (fun (a : Nat × Int) => [.sl false false (L.map Msg.T), .int .i64 a.2, .unk, .unk, .unk, .int .i64 a.1]) (fun (a : Nat × Int) => a.1 ≤ L.length ∧ (0 ≤ a.2 ∧ a.2 ≤ k - L.length) ∧ (ctL ctMsg (L.take a.1) : Int) ≤ 16 * a.1 + 16 * (k - L.length - a.2) ∧ ∀ j, j < a.1 → TBs 1048576 (Msg.T (L.getD j Msg0))) (fun (a : Nat × Int) => L.length - a.1) (0, k - (L.map Msg.T).length) ?_ ?_ ?_
  ·exact ⟨Nat.zero_le _, by dsimp only; omega, by show ((ctL ctMsg [] : Nat) : Int) ≤ _; rw [show ctL ctMsg [] = 0 from rfl]; dsimp only; omega, fun j hj => absurd hj (Nat.not_lt_zero j)⟩
  ·(repeat first | exact LE.nil _ | refine LE.unk _ _ ?_ | refine LE.eq _ _ _ rfl ?_)
  intro ⟨i, a1⟩ hI ih
  obtain ⟨q0, q1, q2, q3⟩ := hI
  dsimp only at q0 q1 q2 q3 ⊢
  have hlt2 := fun q => E3 (ct := ctMsg) Msg0 L i q
  refine A3 (st := []) ?_
  refine br ?_ ?_ <;> intro h5_3
  ·(refine C0 (D1 (by first | rfl | assumption | (exact B6 Msg.T Msg0 (by omega))) rfl ?_))
   refine J3 (lc56 (L.getD i Msg0) a1 (by omega) (hs i (by omega))) rfl j2 ?_
   rintro y h7_5
   try dsimp only at h7_5
   refine br ?_ ?_ <;> intro h8_1
   ·first | exact ⟨-1, ⟨by omega, fun h => by omega⟩, C2 rfl rfl⟩ | (obtain rfl : i = L.length := (by omega); rw [D0] at q2; exact ⟨a1, ⟨by omega, fun _ => ⟨(B9 Msg.T Msg0).2 ⟨by omega, fun j hj => q3 j (by omega)⟩, by omega⟩⟩, C2 rfl rfl⟩)
   ·refine C1 ?_
    have hl3 := hlt2 (by omega)
    have c1 := (h7_5.2 (by omega)).2
    exact T5 (ih (i + 1, y) ⟨by dsimp only; omega, by dsimp only; omega, by dsimp only; omega, fun j hj => by
     by_cases e : j = i
     ·subst e; exact (h7_5.2 (by omega)).1
     ·exact q3 j (by dsimp only at hj; omega)⟩ (by dsimp only; omega)) (by (repeat first | exact LE.nil _ | refine LE.unk _ _ ?_ | refine LE.eq _ _ _ rfl ?_))
  ·first | exact ⟨-1, ⟨by omega, fun h => by omega⟩, C2 rfl rfl⟩ | (obtain rfl : i = L.length := (by omega); rw [D0] at q2; exact ⟨a1, ⟨by omega, fun _ => ⟨(B9 Msg.T Msg0).2 ⟨by omega, fun j hj => q3 j (by omega)⟩, by omega⟩⟩, C2 rfl rfl⟩)
theorem lc150 (s : Ct) (k : Int) (hk : 0 ≤ k ∧ k ≤ 1048576) (hb : TBs 9223372036854775807 ((Ct.T false) s)) : ∃ x : Int, ((-1 ≤ x ∧ x ≤ k) ∧ (0 ≤ x → TBs 1048576 ((Ct.T false) s) ∧ (ctCt s : Int) ≤ 16 + 16 * (k - x))) ∧ Pure En 150 [.agg ((Ct.T false) s), .one (.int .i64 k)] [.one (.int .i64 x)] := by
 obtain ⟨b0, b1⟩ := Ct.tb.1 hb
 refine Pure.of_evX (st := []) Tryz.func150 rfl kb ?_
 refine A2 ?_
 refine C1 ?_
 refine br ?_ ?_ <;> intro h2_1
 ·first | exact ⟨-1, ⟨by omega, fun h => by omega⟩, C2 rfl rfl⟩ | exact ⟨_, ⟨by omega, fun hx => ⟨Ct.tb.2 ⟨by omega, (h4_3.2 (by omega)).1⟩, by have c1 := (h4_3.2 (by omega)).2; unfold ctCt; omega⟩⟩, C2 rfl rfl⟩
 ·refine A2 ?_
  refine J3 (lc13 s.ps (k - (s.bd.size : Int)) (by omega) b1) rfl j2 ?_
  rintro y1 h4_3
  try dsimp only at h4_3
  refine br ?_ ?_ <;> intro h5_1
  ·first | exact ⟨-1, ⟨by omega, fun h => by omega⟩, C2 rfl rfl⟩ | exact ⟨_, ⟨by omega, fun hx => ⟨Ct.tb.2 ⟨by omega, (h4_3.2 (by omega)).1⟩, by have c1 := (h4_3.2 (by omega)).2; unfold ctCt; omega⟩⟩, C2 rfl rfl⟩
  ·first | exact ⟨-1, ⟨by omega, fun h => by omega⟩, C2 rfl rfl⟩ | exact ⟨_, ⟨by omega, fun hx => ⟨Ct.tb.2 ⟨by omega, (h4_3.2 (by omega)).1⟩, by have c1 := (h4_3.2 (by omega)).2; unfold ctCt; omega⟩⟩, C2 rfl rfl⟩
theorem lc72 (L : List Ct) (k : Int) (hk : 0 ≤ k ∧ k ≤ 1048576) (hb : TB 9223372036854775807 (.sl false (L.map (Ct.T false)))) : ∃ x : Int, ((-1 ≤ x ∧ x ≤ k) ∧ (0 ≤ x → TB 1048576 (.sl false (L.map (Ct.T false))) ∧ (ctL ctCt L : Int) ≤ 16 * (k - x))) ∧ Pure En 72 [.one (.sl false (L.map (Ct.T false))), .one (.int .i64 k)] [.one (.int .i64 x)] := by
 have hl : (L.map (Ct.T false)).length = L.length := List.length_map ..
 obtain ⟨hm, hs⟩ := (B9 (Ct.T false) Ct0).1 hb
 refine Pure.of_evX (st := []) Tryz.func72 rfl kb ?_
 refine C1 ?_
 refine br ?_ ?_ <;> intro h2_1
 ·first | exact ⟨-1, ⟨by omega, fun h => by omega⟩, C2 rfl rfl⟩ | (obtain rfl : i = L.length := (by omega); rw [D0] at q2; exact ⟨a1, ⟨by omega, fun _ => ⟨(B9 (Ct.T false) Ct0).2 ⟨by omega, fun j hj => q3 j (by omega)⟩, by omega⟩⟩, C2 rfl rfl⟩)
 ·refine D4 (fun (a : Nat × Int) => [.sl false false (L.map (Ct.T false)), .int .i64 a.2, .unk, .unk, .unk, .int .i64 a.1]) (fun (a : Nat × Int) => a.1 ≤ L.length ∧ (0 ≤ a.2 ∧ a.2 ≤ k - L.length) ∧ (ctL ctCt (L.take a.1) : Int) ≤ 16 * a.1 + 16 * (k - L.length - a.2) ∧ ∀ j, j < a.1 → TBs 1048576 ((Ct.T false) (L.getD j Ct0))) (fun (a : Nat × Int) => L.length - a.1) (0, k - (L.map (Ct.T false)).length) ?_ ?_ ?_
  ·exact ⟨Nat.zero_le _, by dsimp only; omega, by show ((ctL ctCt [] : Nat) : Int) ≤ _; rw [show ctL ctCt [] = 0 from rfl]; dsimp only; omega, fun j hj => absurd hj (Nat.not_lt_zero j)⟩
  ·(repeat first | exact LE.nil _ | refine LE.unk _ _ ?_ | refine LE.eq _ _ _ rfl ?_)
  intro ⟨i, a1⟩ hI ih
  obtain ⟨q0, q1, q2, q3⟩ := hI
  dsimp only at q0 q1 q2 q3 ⊢
  have hlt2 := fun q => E3 (ct := ctCt) Ct0 L i q
  refine A3 (st := []) ?_
  refine br ?_ ?_ <;> intro h5_3
  ·(refine C0 (D1 (by first | rfl | assumption | (exact B6 (Ct.T false) Ct0 (by omega))) rfl ?_))
   refine J3 (lc150 (L.getD i Ct0) a1 (by omega) (hs i (by omega))) rfl j2 ?_
   rintro y h7_5
   try dsimp only at h7_5
   refine br ?_ ?_ <;> intro h8_1
   ·first | exact ⟨-1, ⟨by omega, fun h => by omega⟩, C2 rfl rfl⟩ | (obtain rfl : i = L.length := (by omega); rw [D0] at q2; exact ⟨a1, ⟨by omega, fun _ => ⟨(B9 (Ct.T false) Ct0).2 ⟨by omega, fun j hj => q3 j (by omega)⟩, by omega⟩⟩, C2 rfl rfl⟩)
   ·refine C1 ?_
    have hl3 := hlt2 (by omega)
    have c1 := (h7_5.2 (by omega)).2
    exact T5 (ih (i + 1, y) ⟨by dsimp only; omega, by dsimp only; omega, by dsimp only; omega, fun j hj => by
     by_cases e : j = i
     ·subst e; exact (h7_5.2 (by omega)).1
     ·exact q3 j (by dsimp only at hj; omega)⟩ (by dsimp only; omega)) (by (repeat first | exact LE.nil _ | refine LE.unk _ _ ?_ | refine LE.eq _ _ _ rfl ?_))
  ·first | exact ⟨-1, ⟨by omega, fun h => by omega⟩, C2 rfl rfl⟩ | (obtain rfl : i = L.length := (by omega); rw [D0] at q2; exact ⟨a1, ⟨by omega, fun _ => ⟨(B9 (Ct.T false) Ct0).2 ⟨by omega, fun j hj => q3 j (by omega)⟩, by omega⟩⟩, C2 rfl rfl⟩)
theorem lc149 (s : Slt) (k : Int) (hk : 0 ≤ k ∧ k ≤ 1048576) (hb : TBs 9223372036854775807 (Slt.T s)) : ∃ x : Int, ((-1 ≤ x ∧ x ≤ k) ∧ (0 ≤ x → TBs 1048576 (Slt.T s) ∧ (ctSlt s : Int) ≤ 16 + 16 * (k - x))) ∧ Pure En 149 [.agg (Slt.T s), .one (.int .i64 k)] [.one (.int .i64 x)] := by
 obtain ⟨b0, b1, b2⟩ := Slt.tb.1 hb
 refine Pure.of_evX (st := []) Tryz.func149 rfl kb ?_
 refine A2 ?_
 refine C1 ?_
 refine br ?_ ?_ <;> intro h2_1
 ·first | exact ⟨-1, ⟨by omega, fun h => by omega⟩, C2 rfl rfl⟩ | exact ⟨_, ⟨by omega, fun hx => ⟨Slt.tb.2 ⟨by omega, (h4_3.2 (by omega)).1, (h7_3.2 (by omega)).1⟩, by have c1 := (h4_3.2 (by omega)).2; have c2 := (h7_3.2 (by omega)).2; unfold ctSlt; omega⟩⟩, C2 rfl rfl⟩
 ·refine A2 ?_
  refine J3 (lc13 s.pr (k - (s.bd.size : Int)) (by omega) b1) rfl j2 ?_
  rintro y1 h4_3
  try dsimp only at h4_3
  refine br ?_ ?_ <;> intro h5_1
  ·first | exact ⟨-1, ⟨by omega, fun h => by omega⟩, C2 rfl rfl⟩ | exact ⟨_, ⟨by omega, fun hx => ⟨Slt.tb.2 ⟨by omega, (h4_3.2 (by omega)).1, (h7_3.2 (by omega)).1⟩, by have c1 := (h4_3.2 (by omega)).2; have c2 := (h7_3.2 (by omega)).2; unfold ctSlt; omega⟩⟩, C2 rfl rfl⟩
  ·refine A2 ?_
   refine J3 (lc13 s.cm (y1) (by omega) b2) rfl j2 ?_
   rintro y2 h7_3
   try dsimp only at h7_3
   refine br ?_ ?_ <;> intro h8_1
   ·first | exact ⟨-1, ⟨by omega, fun h => by omega⟩, C2 rfl rfl⟩ | exact ⟨_, ⟨by omega, fun hx => ⟨Slt.tb.2 ⟨by omega, (h4_3.2 (by omega)).1, (h7_3.2 (by omega)).1⟩, by have c1 := (h4_3.2 (by omega)).2; have c2 := (h7_3.2 (by omega)).2; unfold ctSlt; omega⟩⟩, C2 rfl rfl⟩
   ·first | exact ⟨-1, ⟨by omega, fun h => by omega⟩, C2 rfl rfl⟩ | exact ⟨_, ⟨by omega, fun hx => ⟨Slt.tb.2 ⟨by omega, (h4_3.2 (by omega)).1, (h7_3.2 (by omega)).1⟩, by have c1 := (h4_3.2 (by omega)).2; have c2 := (h7_3.2 (by omega)).2; unfold ctSlt; omega⟩⟩, C2 rfl rfl⟩
theorem lc71 (L : List Slt) (k : Int) (hk : 0 ≤ k ∧ k ≤ 1048576) (hb : TB 9223372036854775807 (.sl false (L.map Slt.T))) : ∃ x : Int, ((-1 ≤ x ∧ x ≤ k) ∧ (0 ≤ x → TB 1048576 (.sl false (L.map Slt.T)) ∧ (ctL ctSlt L : Int) ≤ 16 * (k - x))) ∧ Pure En 71 [.one (.sl false (L.map Slt.T)), .one (.int .i64 k)] [.one (.int .i64 x)] := by
 have hl : (L.map Slt.T).length = L.length := List.length_map ..
 obtain ⟨hm, hs⟩ := (B9 Slt.T Slt0).1 hb
 refine Pure.of_evX (st := []) Tryz.func71 rfl kb ?_
 refine C1 ?_
 refine br ?_ ?_ <;> intro h2_1
 ·first | exact ⟨-1, ⟨by omega, fun h => by omega⟩, C2 rfl rfl⟩ | (obtain rfl : i = L.length := (by omega); rw [D0] at q2; exact ⟨a1, ⟨by omega, fun _ => ⟨(B9 Slt.T Slt0).2 ⟨by omega, fun j hj => q3 j (by omega)⟩, by omega⟩⟩, C2 rfl rfl⟩)
 ·refine D4 (fun (a : Nat × Int) => [.sl false false (L.map Slt.T), .int .i64 a.2, .unk, .unk, .unk, .int .i64 a.1]) (fun (a : Nat × Int) => a.1 ≤ L.length ∧ (0 ≤ a.2 ∧ a.2 ≤ k - L.length) ∧ (ctL ctSlt (L.take a.1) : Int) ≤ 16 * a.1 + 16 * (k - L.length - a.2) ∧ ∀ j, j < a.1 → TBs 1048576 (Slt.T (L.getD j Slt0))) (fun (a : Nat × Int) => L.length - a.1) (0, k - (L.map Slt.T).length) ?_ ?_ ?_
  ·exact ⟨Nat.zero_le _, by dsimp only; omega, by show ((ctL ctSlt [] : Nat) : Int) ≤ _; rw [show ctL ctSlt [] = 0 from rfl]; dsimp only; omega, fun j hj => absurd hj (Nat.not_lt_zero j)⟩
  ·(repeat first | exact LE.nil _ | refine LE.unk _ _ ?_ | refine LE.eq _ _ _ rfl ?_)
  intro ⟨i, a1⟩ hI ih
  obtain ⟨q0, q1, q2, q3⟩ := hI
  dsimp only at q0 q1 q2 q3 ⊢
  have hlt2 := fun q => E3 (ct := ctSlt) Slt0 L i q
  refine A3 (st := []) ?_
  refine br ?_ ?_ <;> intro h5_3
  ·(refine C0 (D1 (by first | rfl | assumption | (exact B6 Slt.T Slt0 (by omega))) rfl ?_))
   refine J3 (lc149 (L.getD i Slt0) a1 (by omega) (hs i (by omega))) rfl j2 ?_
   rintro y h7_5
   try dsimp only at h7_5
   refine br ?_ ?_ <;> intro h8_1
   ·first | exact ⟨-1, ⟨by omega, fun h => by omega⟩, C2 rfl rfl⟩ | (obtain rfl : i = L.length := (by omega); rw [D0] at q2; exact ⟨a1, ⟨by omega, fun _ => ⟨(B9 Slt.T Slt0).2 ⟨by omega, fun j hj => q3 j (by omega)⟩, by omega⟩⟩, C2 rfl rfl⟩)
   ·refine C1 ?_
    have hl3 := hlt2 (by omega)
    have c1 := (h7_5.2 (by omega)).2
    exact T5 (ih (i + 1, y) ⟨by dsimp only; omega, by dsimp only; omega, by dsimp only; omega, fun j hj => by
     by_cases e : j = i
     ·subst e; exact (h7_5.2 (by omega)).1
     ·exact q3 j (by dsimp only at hj; omega)⟩ (by dsimp only; omega)) (by (repeat first | exact LE.nil _ | refine LE.unk _ _ ?_ | refine LE.eq _ _ _ rfl ?_))
  ·first | exact ⟨-1, ⟨by omega, fun h => by omega⟩, C2 rfl rfl⟩ | (obtain rfl : i = L.length := (by omega); rw [D0] at q2; exact ⟨a1, ⟨by omega, fun _ => ⟨(B9 Slt.T Slt0).2 ⟨by omega, fun j hj => q3 j (by omega)⟩, by omega⟩⟩, C2 rfl rfl⟩)
theorem lc26 (s : Rep) (k : Int) (hk : 0 ≤ k ∧ k ≤ 1048576) (hb : TBs 9223372036854775807 (Rep.T s)) : ∃ x : Int, ((-1 ≤ x ∧ x ≤ k) ∧ (0 ≤ x → TBs 1048576 (Rep.T s) ∧ (ctRep s : Int) ≤ 16 + 16 * (k - x))) ∧ Pure En 26 [.agg (Rep.T s), .one (.int .i64 k)] [.one (.int .i64 x)] := by
 obtain ⟨b0, b1, b2, b3⟩ := Rep.tb.1 hb
 refine Pure.of_evX (st := []) Tryz.func26 rfl kb ?_
 refine A2 ?_
 refine J3 (lc71 s.sl (k) (by omega) b0) rfl j2 ?_
 rintro y0 h1_3
 try dsimp only at h1_3
 refine br ?_ ?_ <;> intro h2_1
 ·first | exact ⟨-1, ⟨by omega, fun h => by omega⟩, C2 rfl rfl⟩ | exact ⟨_, ⟨by omega, fun hx => ⟨Rep.tb.2 ⟨(h1_3.2 (by omega)).1, (h4_3.2 (by omega)).1, (h7_3.2 (by omega)).1, (h10_3.2 (by omega)).1⟩, by have c0 := (h1_3.2 (by omega)).2; have c1 := (h4_3.2 (by omega)).2; have c2 := (h7_3.2 (by omega)).2; have c3 := (h10_3.2 (by omega)).2; unfold ctRep; omega⟩⟩, C2 rfl rfl⟩
 ·refine A2 ?_
  refine J3 (lc72 s.cs (y0) (by omega) b1) rfl j2 ?_
  rintro y1 h4_3
  try dsimp only at h4_3
  refine br ?_ ?_ <;> intro h5_1
  ·first | exact ⟨-1, ⟨by omega, fun h => by omega⟩, C2 rfl rfl⟩ | exact ⟨_, ⟨by omega, fun hx => ⟨Rep.tb.2 ⟨(h1_3.2 (by omega)).1, (h4_3.2 (by omega)).1, (h7_3.2 (by omega)).1, (h10_3.2 (by omega)).1⟩, by have c0 := (h1_3.2 (by omega)).2; have c1 := (h4_3.2 (by omega)).2; have c2 := (h7_3.2 (by omega)).2; have c3 := (h10_3.2 (by omega)).2; unfold ctRep; omega⟩⟩, C2 rfl rfl⟩
  ·refine A2 ?_
   refine J3 (lc73 s.lg (y1) (by omega) b2) rfl j2 ?_
   rintro y2 h7_3
   try dsimp only at h7_3
   refine br ?_ ?_ <;> intro h8_1
   ·first | exact ⟨-1, ⟨by omega, fun h => by omega⟩, C2 rfl rfl⟩ | exact ⟨_, ⟨by omega, fun hx => ⟨Rep.tb.2 ⟨(h1_3.2 (by omega)).1, (h4_3.2 (by omega)).1, (h7_3.2 (by omega)).1, (h10_3.2 (by omega)).1⟩, by have c0 := (h1_3.2 (by omega)).2; have c1 := (h4_3.2 (by omega)).2; have c2 := (h7_3.2 (by omega)).2; have c3 := (h10_3.2 (by omega)).2; unfold ctRep; omega⟩⟩, C2 rfl rfl⟩
   ·refine A2 ?_
    refine J3 (lc13 s.ch (y2) (by omega) b3) rfl j2 ?_
    rintro y3 h10_3
    try dsimp only at h10_3
    refine br ?_ ?_ <;> intro h11_1
    ·first | exact ⟨-1, ⟨by omega, fun h => by omega⟩, C2 rfl rfl⟩ | exact ⟨_, ⟨by omega, fun hx => ⟨Rep.tb.2 ⟨(h1_3.2 (by omega)).1, (h4_3.2 (by omega)).1, (h7_3.2 (by omega)).1, (h10_3.2 (by omega)).1⟩, by have c0 := (h1_3.2 (by omega)).2; have c1 := (h4_3.2 (by omega)).2; have c2 := (h7_3.2 (by omega)).2; have c3 := (h10_3.2 (by omega)).2; unfold ctRep; omega⟩⟩, C2 rfl rfl⟩
    ·first | exact ⟨-1, ⟨by omega, fun h => by omega⟩, C2 rfl rfl⟩ | exact ⟨_, ⟨by omega, fun hx => ⟨Rep.tb.2 ⟨(h1_3.2 (by omega)).1, (h4_3.2 (by omega)).1, (h7_3.2 (by omega)).1, (h10_3.2 (by omega)).1⟩, by have c0 := (h1_3.2 (by omega)).2; have c1 := (h4_3.2 (by omega)).2; have c2 := (h7_3.2 (by omega)).2; have c3 := (h10_3.2 (by omega)).2; unfold ctRep; omega⟩⟩, C2 rfl rfl⟩
theorem lc90 (L : List Rep) (k : Int) (hk : 0 ≤ k ∧ k ≤ 1048576) (hb : TB 9223372036854775807 (.sl false (L.map Rep.T))) : ∃ x : Int, ((-1 ≤ x ∧ x ≤ k) ∧ (0 ≤ x → TB 1048576 (.sl false (L.map Rep.T)) ∧ (ctL ctRep L : Int) ≤ 16 * (k - x))) ∧ Pure En 90 [.one (.sl false (L.map Rep.T)), .one (.int .i64 k)] [.one (.int .i64 x)] := by
 have hl : (L.map Rep.T).length = L.length := List.length_map ..
 obtain ⟨hm, hs⟩ := (B9 Rep.T Rep0).1 hb
 refine Pure.of_evX (st := []) Tryz.func90 rfl kb ?_
 refine C1 ?_
 refine br ?_ ?_ <;> intro h2_1
 ·first | exact ⟨-1, ⟨by omega, fun h => by omega⟩, C2 rfl rfl⟩ | (obtain rfl : i = L.length := (by omega); rw [D0] at q2; exact ⟨a1, ⟨by omega, fun _ => ⟨(B9 Rep.T Rep0).2 ⟨by omega, fun j hj => q3 j (by omega)⟩, by omega⟩⟩, C2 rfl rfl⟩)
 ·refine D4 (fun (a : Nat × Int) => [.sl false false (L.map Rep.T), .int .i64 a.2, .unk, .unk, .unk, .int .i64 a.1]) (fun (a : Nat × Int) => a.1 ≤ L.length ∧ (0 ≤ a.2 ∧ a.2 ≤ k - L.length) ∧ (ctL ctRep (L.take a.1) : Int) ≤ 16 * a.1 + 16 * (k - L.length - a.2) ∧ ∀ j, j < a.1 → TBs 1048576 (Rep.T (L.getD j Rep0))) (fun (a : Nat × Int) => L.length - a.1) (0, k - (L.map Rep.T).length) ?_ ?_ ?_
  ·exact ⟨Nat.zero_le _, by dsimp only; omega, by show ((ctL ctRep [] : Nat) : Int) ≤ _; rw [show ctL ctRep [] = 0 from rfl]; dsimp only; omega, fun j hj => absurd hj (Nat.not_lt_zero j)⟩
  ·(repeat first | exact LE.nil _ | refine LE.unk _ _ ?_ | refine LE.eq _ _ _ rfl ?_)
  intro ⟨i, a1⟩ hI ih
  obtain ⟨q0, q1, q2, q3⟩ := hI
  dsimp only at q0 q1 q2 q3 ⊢
  have hlt2 := fun q => E3 (ct := ctRep) Rep0 L i q
  refine A3 (st := []) ?_
  refine br ?_ ?_ <;> intro h5_3
  ·(refine C0 (D1 (by first | rfl | assumption | (exact B6 Rep.T Rep0 (by omega))) rfl ?_))
   refine J3 (lc26 (L.getD i Rep0) a1 (by omega) (hs i (by omega))) rfl j2 ?_
   rintro y h7_5
   try dsimp only at h7_5
   refine br ?_ ?_ <;> intro h8_1
   ·first | exact ⟨-1, ⟨by omega, fun h => by omega⟩, C2 rfl rfl⟩ | (obtain rfl : i = L.length := (by omega); rw [D0] at q2; exact ⟨a1, ⟨by omega, fun _ => ⟨(B9 Rep.T Rep0).2 ⟨by omega, fun j hj => q3 j (by omega)⟩, by omega⟩⟩, C2 rfl rfl⟩)
   ·refine C1 ?_
    have hl3 := hlt2 (by omega)
    have c1 := (h7_5.2 (by omega)).2
    exact T5 (ih (i + 1, y) ⟨by dsimp only; omega, by dsimp only; omega, by dsimp only; omega, fun j hj => by
     by_cases e : j = i
     ·subst e; exact (h7_5.2 (by omega)).1
     ·exact q3 j (by dsimp only at hj; omega)⟩ (by dsimp only; omega)) (by (repeat first | exact LE.nil _ | refine LE.unk _ _ ?_ | refine LE.eq _ _ _ rfl ?_))
  ·first | exact ⟨-1, ⟨by omega, fun h => by omega⟩, C2 rfl rfl⟩ | (obtain rfl : i = L.length := (by omega); rw [D0] at q2; exact ⟨a1, ⟨by omega, fun _ => ⟨(B9 Rep.T Rep0).2 ⟨by omega, fun j hj => q3 j (by omega)⟩, by omega⟩⟩, C2 rfl rfl⟩)
theorem lc164 (s : Pc) (k : Int) (hk : 0 ≤ k ∧ k ≤ 1048576) (hb : TBs 9223372036854775807 (Pc.T s)) : ∃ x : Int, ((-1 ≤ x ∧ x ≤ k) ∧ (0 ≤ x → TBs 1048576 (Pc.T s) ∧ (ctPc s : Int) ≤ 16 + 16 * (k - x))) ∧ Pure En 164 [.agg (Pc.T s), .one (.int .i64 k)] [.one (.int .i64 x)] := by
 have b0 := Pc.tb.1 hb
 refine Pure.of_evX (st := []) Tryz.func164 rfl kb ?_
 (apply D2 (vs := [.int _ _, .int _ _, .int _ _, .int _ _, .str _, .str _, .str _]) j2; exact Q0; rfl; rfl; exact kb; rfl)
 refine J3 (lc56 s.ms (k) (by omega) b0) rfl j2 ?_
 rintro y0 h1_3
 try dsimp only at h1_3
 refine br ?_ ?_ <;> intro h2_1
 ·first | exact ⟨-1, ⟨by omega, fun h => by omega⟩, C2 rfl rfl⟩ | exact ⟨_, ⟨by omega, fun hx => ⟨Pc.tb.2 ((h1_3.2 (by omega)).1), by have c0 := (h1_3.2 (by omega)).2; unfold ctMsg at c0; unfold ctPc; omega⟩⟩, C2 rfl rfl⟩
 ·first | exact ⟨-1, ⟨by omega, fun h => by omega⟩, C2 rfl rfl⟩ | exact ⟨_, ⟨by omega, fun hx => ⟨Pc.tb.2 ((h1_3.2 (by omega)).1), by have c0 := (h1_3.2 (by omega)).2; unfold ctMsg at c0; unfold ctPc; omega⟩⟩, C2 rfl rfl⟩
theorem lc91 (L : List Pc) (k : Int) (hk : 0 ≤ k ∧ k ≤ 1048576) (hb : TB 9223372036854775807 (.sl false (L.map Pc.T))) : ∃ x : Int, ((-1 ≤ x ∧ x ≤ k) ∧ (0 ≤ x → TB 1048576 (.sl false (L.map Pc.T)) ∧ (ctL ctPc L : Int) ≤ 16 * (k - x))) ∧ Pure En 91 [.one (.sl false (L.map Pc.T)), .one (.int .i64 k)] [.one (.int .i64 x)] := by
 have hl : (L.map Pc.T).length = L.length := List.length_map ..
 obtain ⟨hm, hs⟩ := (B9 Pc.T Pc0).1 hb
 refine Pure.of_evX (st := []) Tryz.func91 rfl kb ?_
 refine C1 ?_
 refine br ?_ ?_ <;> intro h2_1
 ·first | exact ⟨-1, ⟨by omega, fun h => by omega⟩, C2 rfl rfl⟩ | (obtain rfl : i = L.length := (by omega); rw [D0] at q2; exact ⟨a1, ⟨by omega, fun _ => ⟨(B9 Pc.T Pc0).2 ⟨by omega, fun j hj => q3 j (by omega)⟩, by omega⟩⟩, C2 rfl rfl⟩)
 ·refine D4 (fun (a : Nat × Int) => [.sl false false (L.map Pc.T), .int .i64 a.2, .unk, .unk, .unk, .int .i64 a.1]) (fun (a : Nat × Int) => a.1 ≤ L.length ∧ (0 ≤ a.2 ∧ a.2 ≤ k - L.length) ∧ (ctL ctPc (L.take a.1) : Int) ≤ 16 * a.1 + 16 * (k - L.length - a.2) ∧ ∀ j, j < a.1 → TBs 1048576 (Pc.T (L.getD j Pc0))) (fun (a : Nat × Int) => L.length - a.1) (0, k - (L.map Pc.T).length) ?_ ?_ ?_
  ·exact ⟨Nat.zero_le _, by dsimp only; omega, by show ((ctL ctPc [] : Nat) : Int) ≤ _; rw [show ctL ctPc [] = 0 from rfl]; dsimp only; omega, fun j hj => absurd hj (Nat.not_lt_zero j)⟩
  ·(repeat first | exact LE.nil _ | refine LE.unk _ _ ?_ | refine LE.eq _ _ _ rfl ?_)
  intro ⟨i, a1⟩ hI ih
  obtain ⟨q0, q1, q2, q3⟩ := hI
  dsimp only at q0 q1 q2 q3 ⊢
  have hlt2 := fun q => E3 (ct := ctPc) Pc0 L i q
  refine A3 (st := []) ?_
  refine br ?_ ?_ <;> intro h5_3
  ·(refine C0 (D1 (by first | rfl | assumption | (exact B6 Pc.T Pc0 (by omega))) rfl ?_))
   refine J3 (lc164 (L.getD i Pc0) a1 (by omega) (hs i (by omega))) rfl j2 ?_
   rintro y h7_5
   try dsimp only at h7_5
   refine br ?_ ?_ <;> intro h8_1
   ·first | exact ⟨-1, ⟨by omega, fun h => by omega⟩, C2 rfl rfl⟩ | (obtain rfl : i = L.length := (by omega); rw [D0] at q2; exact ⟨a1, ⟨by omega, fun _ => ⟨(B9 Pc.T Pc0).2 ⟨by omega, fun j hj => q3 j (by omega)⟩, by omega⟩⟩, C2 rfl rfl⟩)
   ·refine C1 ?_
    have hl3 := hlt2 (by omega)
    have c1 := (h7_5.2 (by omega)).2
    exact T5 (ih (i + 1, y) ⟨by dsimp only; omega, by dsimp only; omega, by dsimp only; omega, fun j hj => by
     by_cases e : j = i
     ·subst e; exact (h7_5.2 (by omega)).1
     ·exact q3 j (by dsimp only at hj; omega)⟩ (by dsimp only; omega)) (by (repeat first | exact LE.nil _ | refine LE.unk _ _ ?_ | refine LE.eq _ _ _ rfl ?_))
  ·first | exact ⟨-1, ⟨by omega, fun h => by omega⟩, C2 rfl rfl⟩ | (obtain rfl : i = L.length := (by omega); rw [D0] at q2; exact ⟨a1, ⟨by omega, fun _ => ⟨(B9 Pc.T Pc0).2 ⟨by omega, fun j hj => q3 j (by omega)⟩, by omega⟩⟩, C2 rfl rfl⟩)
theorem lc31 (s : Grp) (k : Int) (hk : 0 ≤ k ∧ k ≤ 1048576) (hb : TBs 9223372036854775807 (Grp.T s)) : ∃ x : Int, ((-1 ≤ x ∧ x ≤ k) ∧ (0 ≤ x → TBs 1048576 (Grp.T s) ∧ (ctGrp s : Int) ≤ 16 + 16 * (k - x))) ∧ Pure En 31 [.agg (Grp.T s), .one (.int .i64 k)] [.one (.int .i64 x)] := by
 obtain ⟨b0, b1, b2, b3⟩ := Grp.tb.1 hb
 refine Pure.of_evX (st := []) Tryz.func31 rfl kb ?_
 refine A2 ?_
 refine J3 (lc89 s.fa (k) (by omega) b0) rfl j2 ?_
 rintro y0 h1_3
 try dsimp only at h1_3
 refine br ?_ ?_ <;> intro h2_1
 ·first | exact ⟨-1, ⟨by omega, fun h => by omega⟩, C2 rfl rfl⟩ | exact ⟨_, ⟨by omega, fun hx => ⟨Grp.tb.2 ⟨(h1_3.2 (by omega)).1, (h4_3.2 (by omega)).1, (h7_3.2 (by omega)).1, (h10_3.2 (by omega)).1⟩, by have c0 := (h1_3.2 (by omega)).2; have c1 := (h4_3.2 (by omega)).2; have c2 := (h7_3.2 (by omega)).2; have c3 := (h10_3.2 (by omega)).2; unfold ctGrp; omega⟩⟩, C2 rfl rfl⟩
 ·refine A2 ?_
  refine J3 (lc90 s.rs (y0) (by omega) b1) rfl j2 ?_
  rintro y1 h4_3
  try dsimp only at h4_3
  refine br ?_ ?_ <;> intro h5_1
  ·first | exact ⟨-1, ⟨by omega, fun h => by omega⟩, C2 rfl rfl⟩ | exact ⟨_, ⟨by omega, fun hx => ⟨Grp.tb.2 ⟨(h1_3.2 (by omega)).1, (h4_3.2 (by omega)).1, (h7_3.2 (by omega)).1, (h10_3.2 (by omega)).1⟩, by have c0 := (h1_3.2 (by omega)).2; have c1 := (h4_3.2 (by omega)).2; have c2 := (h7_3.2 (by omega)).2; have c3 := (h10_3.2 (by omega)).2; unfold ctGrp; omega⟩⟩, C2 rfl rfl⟩
  ·refine A2 ?_
   refine J3 (lc91 s.wi (y1) (by omega) b2) rfl j2 ?_
   rintro y2 h7_3
   try dsimp only at h7_3
   refine br ?_ ?_ <;> intro h8_1
   ·first | exact ⟨-1, ⟨by omega, fun h => by omega⟩, C2 rfl rfl⟩ | exact ⟨_, ⟨by omega, fun hx => ⟨Grp.tb.2 ⟨(h1_3.2 (by omega)).1, (h4_3.2 (by omega)).1, (h7_3.2 (by omega)).1, (h10_3.2 (by omega)).1⟩, by have c0 := (h1_3.2 (by omega)).2; have c1 := (h4_3.2 (by omega)).2; have c2 := (h7_3.2 (by omega)).2; have c3 := (h10_3.2 (by omega)).2; unfold ctGrp; omega⟩⟩, C2 rfl rfl⟩
   ·refine A2 ?_
    refine J3 (lc13 s.se (y2) (by omega) b3) rfl j2 ?_
    rintro y3 h10_3
    try dsimp only at h10_3
    refine br ?_ ?_ <;> intro h11_1
    ·first | exact ⟨-1, ⟨by omega, fun h => by omega⟩, C2 rfl rfl⟩ | exact ⟨_, ⟨by omega, fun hx => ⟨Grp.tb.2 ⟨(h1_3.2 (by omega)).1, (h4_3.2 (by omega)).1, (h7_3.2 (by omega)).1, (h10_3.2 (by omega)).1⟩, by have c0 := (h1_3.2 (by omega)).2; have c1 := (h4_3.2 (by omega)).2; have c2 := (h7_3.2 (by omega)).2; have c3 := (h10_3.2 (by omega)).2; unfold ctGrp; omega⟩⟩, C2 rfl rfl⟩
    ·first | exact ⟨-1, ⟨by omega, fun h => by omega⟩, C2 rfl rfl⟩ | exact ⟨_, ⟨by omega, fun hx => ⟨Grp.tb.2 ⟨(h1_3.2 (by omega)).1, (h4_3.2 (by omega)).1, (h7_3.2 (by omega)).1, (h10_3.2 (by omega)).1⟩, by have c0 := (h1_3.2 (by omega)).2; have c1 := (h4_3.2 (by omega)).2; have c2 := (h7_3.2 (by omega)).2; have c3 := (h10_3.2 (by omega)).2; unfold ctGrp; omega⟩⟩, C2 rfl rfl⟩
end Go.Proofs.YteifdelnahccjaaGreatDoor
