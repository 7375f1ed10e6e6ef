import Derived.RangeFuncBox
import Derived.RangeFuncLeaves
import Derived.Shelf.Abstract
import Derived.WalkKit
import Derived.OwnWalkIn
import Derived.TacticsInMore
import Derived.LoopNIn
import Derived.LoopIn
import Derived.Test.YteifdelnahccjaaGreatDoorW7
namespace Go.Proofs
open Go.RowKit Go.Maps Go.Sort Go.Shelf
set_option linter.unusedVariables false
theorem Tryz.sortsA (m : Nat) : AnyZI.SortsIn Tryz.prog Tryz.sortedA_ren Fence.wide m :=
 ⟨fun blk off cap ss W hH hblk hsz => callsIn_wide.2 (AnyM.slices_Sort_int Tryz.sortA blk off cap ss W hH hblk hsz),
  fun p cap W => callsIn_wide.2 (AnyM.slices_Sort_int_none Tryz.sortA p cap W)⟩
def Tryz.upto (f : Nat → Int) (k : Nat) : List Int := (List.range k).map f
theorem Tryz.upto_succ (f : Nat → Int) (k : Nat) : Tryz.upto f (k + 1) = Tryz.upto f k ++ [f k] := by simp [Tryz.upto, List.range_succ]
theorem Tryz.upto_length (f : Nat → Int) (k : Nat) : (Tryz.upto f k).length = k := by simp [Tryz.upto]
set_option maxRecDepth 100000 in
set_option maxHeartbeats 2000000 in
theorem Tryz.vals1_in (n : Nat) (hn : 1 ≤ n) (l Bs n₀ b off len cap : Nat) (zs : List Int) (w0 : World) (hreach : len * 8 ≤ 140737488351232) (hb : b < n₀) (J : List Int → World → Prop)
  (hJB : ∀ ss W, J ss W → Below n₀ w0 W) (hc : ∀ j, j < len → w0.cell? ⟨b, off + j, none⟩ = some (.int .i64 (zs[j]?.getD 0)))
  (hY : ∀ pre x W, J pre W → pre.length < len → YieldAt Fence.wide (n - 1) Tryz.prog l #[.int .i64 x] W fun e W' => e = .returned (.bool true) ∧ J (pre ++ [x]) W' ∧ KeepsWalks W W')
  (W : World) (hBs : W.cell? ⟨Bs, 0, none⟩ = some (.slice (some ⟨b, off, none⟩) len cap)) (h0 : J [] W) :
  CallsIn Fence.wide n Tryz.prog 320 #[.func (.yield l) #[] #[], .pointer (some ⟨Bs, 0, none⟩)] W fun e W' => (∃ v, e = .returned v) ∧ J (Tryz.upto (fun j => zs[j]?.getD 0) len) W' := by
 refine callsIn_of_wp Tryz.func320 rfl trivial ?_ rfl
 simp only [Tryz.ntmps320, List.size_toArray, List.length_cons, List.length_nil, Nat.reduceAdd, Nat.reduceSub, Array.replicate_succ, Array.replicate_zero, List.push_toArray, List.append_toArray, List.nil_append, List.cons_append]
 gi_wp2
 gi_loopw [7] (fun i wr => ∃ k : Nat, k ≤ len ∧ i = .int .i64 k ∧ J (Tryz.upto (fun j => zs[j]?.getD 0) k) wr)
  (fun i _ => len - (intOf i).toNat)
 case atStart => exact ⟨0, Nat.zero_le _, rfl, h0⟩
 case round =>
  obtain ⟨k, hk, rfl, hJs⟩ := hrel
  have hnx := hJB _ _ hJs
  have hcx : k < len → wr.cell? ⟨b, off + k, none⟩ = some (.int .i64 (zs[k]?.getD 0)) := fun h => (hnx.cell (p := ⟨b, off + k, none⟩) hb).trans (hc k h)
  by_cases hlt : k < len
  ·obtain ⟨fn, tmps, assign, body, hy, hR⟩ := hY _ (zs[k]?.getD 0) wr hJs (by rw [Tryz.upto_length]; exact hlt)
   have hcx' := hcx hlt
   gi_wp2
   refine hR.mono ?_
   rintro e W3 ⟨rfl, hJ3, hk3⟩
   gi_wp2
   go_roundw
   case rel => exact ⟨k + 1, by omega, by simp, by rw [Tryz.upto_succ]; exact hJ3⟩
   case measure => simp [intOf]; omega
  ·obtain rfl : k = len := by omega
   gi_wp2
   go_end0
   exact ⟨⟨_, rfl⟩, hJs⟩
theorem Tryz.upto_all (zs : List Int) : Tryz.upto (fun j => zs[j]?.getD 0) zs.length = zs := by
 apply List.ext_getElem
 ·simp [Tryz.upto]
 ·intro i h1 h2
  simp [Tryz.upto, h2]
set_option maxRecDepth 100000 in
set_option maxHeartbeats 2000000 in
theorem Tryz.appendVals_in (n : Nat) (hn : 2 ≤ n) (Bs b off cap : Nat) (zs : List Int) (hN : zs.length ≤ maxLen) (hNb : zs.length * 8 ≤ 140737488351232) (w : World)
  (hBs : w.cell? ⟨Bs, 0, none⟩ = some (.slice (some ⟨b, off, none⟩) zs.length cap)) (hBl : Bs < w.heap.size) (hb : b < w.heap.size) (hc : ∀ j, j < zs.length → w.cell? ⟨b, off + j, none⟩ = some (.int .i64 (zs[j]?.getD 0))) :
  CallsIn Fence.wide n Tryz.prog 324 #[.slice none 0 0, .func (.func 320) #[] #[.pointer (some ⟨Bs, 0, none⟩)]] w fun e w' => ∃ (v : Value), e = .returned v ∧ w'.ownsRow w.heap.size 3 1 v zs.length (zs.map encZ) ∧ (v = .slice none 0 0 ↔ zs = []) ∧ Below w.heap.size w w' := by
 have h1 : 1 ≤ n := by omega
 refine callsIn_of_wp_marks Tryz.func324 rfl trivial ?_ rfl
 simp only [Tryz.ntmps324, List.size_toArray, List.length_cons, List.length_nil, Nat.reduceAdd, Nat.reduceSub, Array.replicate_succ, Array.replicate_zero, List.push_toArray, List.append_toArray, List.nil_append, List.cons_append]
 gi_wp2
 refine wpIn_rangeFunc ?_
 intro fn hfn
 rw [show Fence.wide.round = none from rfl]
 obtain ⟨W0, hW0⟩ : ∃ W0, w.alloc (.cells #[.slice none 0 0] 39) = W0 := ⟨_, rfl⟩
 have hs0 : W0.heap.size = w.heap.size + 1 := by rw [← hW0]; simp
 have hv0 : W0.heap[w.heap.size]? = some (.cells #[.slice none 0 0] 39 (0, 0)) := by rw [← hW0]; exact World.alloc_heap_new w _
 have hb0 : Below w.heap.size w W0 := by rw [← hW0]; exact (Below.refl _ w).alloc (Nat.le_refl _) _
 rw [hW0]
 obtain ⟨sv, hsv⟩ : ∃ sv, Value.func (.func 320) #[] #[.pointer (some ⟨Bs, 0, none⟩)] = sv := ⟨_, rfl⟩
 obtain ⟨W1, hW1⟩ : ∃ W1, (W0.alloc (.deferred (some []))).alloc (.loop (AnyZI.apRec Tryz.sortedA_ren fn sv w.heap.size W0.heap.size .ready none)) = W1 := ⟨_, rfl⟩
 have hold : ∀ k, k < W0.heap.size → W1.heap[k]? = W0.heap[k]? := fun k hk => by
  rw [← hW1]; exact (Below.heap_alloc _ _ k (by simp; omega)).trans (Below.heap_alloc _ _ k hk)
 have hb1 : Below w.heap.size w W1 := by rw [← hW1]; exact (hb0.alloc hb0.size _).alloc (by have := hb0.size; simp; omega) _
 have hs1 : W1.heap.size = W0.heap.size + 2 := by rw [← hW1]; simp
 have hM : AnyZI.ApAt Tryz.sortedA_ren w fn sv w.heap.size (W0.heap.size + 1) W0.heap.size [] W1 :=
  ⟨⟨_, (hold w.heap.size (by omega)).trans hv0, ⟨rfl, .inl ⟨rfl, rfl⟩⟩, by simp⟩,
   by rw [← hW1]; have := World.alloc_heap_new (W0.alloc (.deferred (some []))) (.loop (AnyZI.apRec Tryz.sortedA_ren fn sv w.heap.size W0.heap.size .ready none)); rwa [World.size_alloc] at this,
   by rw [← hW1]; exact (Below.heap_alloc _ _ _ (by simp)).trans (World.alloc_heap_new W0 _), hb1⟩
 refine ⟨W0.heap.size + 1, [{ target := .collected W0.heap.size, args := #[] }], W1, { target := .fn (.func 320) #[.pointer (some ⟨Bs, 0, none⟩)], args := #[.func (.yield (W0.heap.size + 1)) #[] #[]] }, W1, 320,
  #[.func (.yield (W0.heap.size + 1)) #[] #[]] ++ #[.pointer (some ⟨Bs, 0, none⟩)], W1, ?_, ?_, ?_, ?_, fun _ => h1, ?_⟩
 ·rw [← hW1, ← hsv]; exact run_enterLoop_outer _ _ _ _ _
 ·simp [resolve, go_sem]
 ·intro f' hf'; trivial
 ·simp [invoke, go_sem]
 ·refine (Tryz.vals1_in (n - 1) (by omega) (W0.heap.size + 1) Bs w.heap.size b off zs.length cap zs w hNb hb (AnyZI.ApAt Tryz.sortedA_ren w fn sv w.heap.size (W0.heap.size + 1) W0.heap.size) (fun ss W h => h.below) hc
   (fun pre x W hJ hl => AnyZI.apYield { Tryz.sortedA with } Fence.wide (n - 1 - 1) w fn hfn _ w.heap.size (W0.heap.size + 1) W0.heap.size (by omega) (by omega) (by omega) (Nat.le_refl _) (by omega) zs.length hN (by omega) pre x W hJ hl) W1 ((hb1.cell (p := ⟨Bs, 0, none⟩) hBl).trans hBs) hM).mono ?_
  rintro e W2 ⟨⟨v0, rfl⟩, h2⟩
  rw [Tryz.upto_all] at h2
  obtain ⟨v, hv, hrow, hnil⟩ := h2.box
  have hend := run_endLoop (P := Tryz.prog) h2.L (by simp [AnyZI.apRec])
  obtain ⟨W3, hW3⟩ : ∃ W3, W2.putObj (W0.heap.size + 1) (.loop { AnyZI.apRec Tryz.sortedA_ren fn sv w.heap.size W0.heap.size .ready none with state := .exhausted }) = W3 := ⟨_, rfl⟩
  rw [hW3] at hend
  have hg3 : W2.grownBy W3 (some (W0.heap.size + 1)) := by rw [← hW3]; exact grownBy_putObj_a _ _ _
  have hv3 : W3.heap[w.heap.size]? = some (.cells #[v] 39 (0, 0)) := by rw [← hW3]; exact (World.putObj_heap_other (by omega)).trans hv
  have hK3 : W3.heap[W0.heap.size]? = some (.deferred (some [])) := by rw [← hW3]; exact (World.putObj_heap_other (by omega)).trans h2.K
  have hrow3 := hrow.kept hg3 (ownsRow_ne_a hrow h2.L (fun cur e => by cases e))
  have hb3 : Below w.heap.size w W3 := h2.below.grown hg3 h2.below.size (fun k e => by cases e; omega)
  obtain ⟨hc3, hf3⟩ := cell_of_box_a hv3
  clear hW3
  refine ⟨none, W3, hend, ?_⟩
  gi_wp2
  rw [← hs0]
  refine ⟨by simp, .inl ⟨_, _, rfl, run_takeDeferred hK3, ?_⟩⟩
  exact ⟨_, results_tmp rfl _ _ _, v, rfl, hrow3.kept (grownBy_putObj_a _ _ _) (ownsRow_ne_a hrow3 hK3 (fun cur e => by cases e)), hnil, hb3.grown (grownBy_putObj_a _ _ _) hb3.size (fun k e => by cases e; omega)⟩
set_option maxHeartbeats 1000000 in
theorem Tryz.collectVals_in (n : Nat) (hn : 3 ≤ n) (Bs b off cap : Nat) (zs : List Int) (hN : zs.length ≤ maxLen) (hNb : zs.length * 8 ≤ 140737488351232) (w : World)
  (hBs : w.cell? ⟨Bs, 0, none⟩ = some (.slice (some ⟨b, off, none⟩) zs.length cap)) (hBl : Bs < w.heap.size) (hb : b < w.heap.size) (hc : ∀ j, j < zs.length → w.cell? ⟨b, off + j, none⟩ = some (.int .i64 (zs[j]?.getD 0))) :
  CallsIn Fence.wide n Tryz.prog 318 #[.func (.func 320) #[] #[.pointer (some ⟨Bs, 0, none⟩)]] w fun e w' => ∃ (v : Value), e = .returned v ∧ w'.ownsRow w.heap.size 3 1 v zs.length (zs.map encZ) ∧ (v = .slice none 0 0 ↔ zs = []) ∧ Below w.heap.size w w' := by
 have h1 : 1 ≤ n := by omega
 have cA := Tryz.appendVals_in (n - 1) (by omega) Bs b off cap zs hN hNb w hBs hBl hb hc
 have hf : Fence.wide.fn 324 := trivial
 refine callsIn_of_wp Tryz.func318 rfl trivial ?_ rfl
 simp only [Tryz.ntmps318, List.size_toArray, List.length_cons, List.length_nil, Nat.reduceAdd, Nat.reduceSub, Array.replicate_succ, Array.replicate_zero, List.push_toArray, List.append_toArray, List.nil_append, List.cons_append]
 gi_wp2_with (gi_at_call 324; refine cA.mono ?_; rintro e w' ⟨v, rfl, hrow, hnil, hb⟩)
 go_ret
 exact ⟨v, rfl, hrow, hnil, hb⟩
set_option maxRecDepth 100000 in
set_option maxHeartbeats 2000000 in
theorem Tryz.sortedVals_in (n : Nat) (hn : 4 ≤ n) (Bs b off cap : Nat) (zs : List Int) (hz : zs ≠ []) (hN : zs.length ≤ maxLen) (hNb : zs.length * 8 ≤ 140737488351232) (w : World)
  (hBs : w.cell? ⟨Bs, 0, none⟩ = some (.slice (some ⟨b, off, none⟩) zs.length cap)) (hBl : Bs < w.heap.size) (hb : b < w.heap.size) (hc : ∀ j, j < zs.length → w.cell? ⟨b, off + j, none⟩ = some (.int .i64 (zs[j]?.getD 0))) :
  CallsIn Fence.wide n Tryz.prog 307 #[.func (.func 320) #[] #[.pointer (some ⟨Bs, 0, none⟩)]] w fun e w' => ∃ gb cap', e = .returned (.slice (some ⟨gb, 0, none⟩) zs.length cap') ∧
   w'.ownsRow w.heap.size 3 1 (.slice (some ⟨gb, 0, none⟩) zs.length cap') zs.length ((zs.mergeSort (fun x y => decide (x ≤ y))).map encZ) ∧ Below w.heap.size w w' := by
 have h1 : 1 ≤ n := by omega
 have cC := Tryz.collectVals_in (n - 1) (by omega) Bs b off cap zs hN hNb w hBs hBl hb hc
 have hf : Fence.wide.fn 318 := trivial
 have hf2 : Fence.wide.fn 319 := trivial
 refine callsIn_of_wp Tryz.func307 rfl trivial ?_ rfl
 simp only [Tryz.ntmps307, List.size_toArray, List.length_cons, List.length_nil, Nat.reduceAdd, Nat.reduceSub, Array.replicate_succ, Array.replicate_zero, List.push_toArray, List.append_toArray, List.nil_append, List.cons_append]
 gi_wp2_with (gi_at_call 318; refine cC.mono ?_; rintro e W ⟨v, rfl, hrow, hnil, hb⟩)
 rcases hrow.2 with ⟨rfl, hz2⟩ | ⟨gb, cap2, cur, rfl, hbase, hgb, r1, r2, r3, r4⟩
 ·exact absurd (hnil.1 rfl) hz
 ·have hH : Holds encZ W gb 0 zs.toArray := holds_of_block_i hgb (by simpa using r4)
  have hgl : gb < W.heap.size := (Array.getElem?_eq_some_iff.1 hgb).1
  have hsz : zs.length < 4611686018427387904 := by omega
  have cS := (Tryz.sortsA (n - 1)).1 gb 0 cap2 zs W hH hgl hsz
  change CallsIn _ _ _ 319 _ _ _ at cS
  gi_wp2_with (gi_at_call 319; refine cS.mono ?_; rintro e w' ⟨rfl, nn, os, rfl⟩)
  go_ret
  exact ⟨_, _, rfl, ownsRow_sorted_i (by simp) hbase hgb r1 r2 r3, hb.grown (grownBy_sorted_i _) hb.size (fun j hj => by cases hj; exact hbase)⟩
theorem Tryz.values_in (n : Nat) (a : Option Addr) (len cap : Nat) (w : World) :
  CallsIn Fence.wide n Tryz.prog 308 #[.slice a len cap] w fun e w' => e = .returned (.func (.func 320) #[] #[.pointer (some ⟨w.heap.size, 0, none⟩)]) ∧ w' = w.alloc (.cells #[.slice a len cap] 39) := by
 refine callsIn_of_wp Tryz.func308 rfl trivial ?_ rfl
 simp only [Tryz.ntmps308, List.size_toArray, List.length_cons, List.length_nil, Nat.reduceAdd, Nat.reduceSub, Array.replicate_succ, Array.replicate_zero, List.push_toArray, List.append_toArray, List.nil_append, List.cons_append]
 gi_wp2
 go_ret
 exact ⟨rfl, rfl⟩
def Tryz.med (zs : List Int) : Int := (zs.mergeSort (fun x y => decide (x ≤ y)))[zs.length / 2]?.getD 0
theorem Tryz.row_cell {W : World} {base gb cap : Nat} {zs : List Int} (h : W.ownsRow base 3 1 (.slice (some ⟨gb, 0, none⟩) zs.length cap) zs.length ((zs.mergeSort (fun x y => decide (x ≤ y))).map encZ)) (hz : zs ≠ []) :
  W.cell? ⟨gb, zs.length / 2, none⟩ = some (.int .i64 (Tryz.med zs)) := by
 have hp : 0 < zs.length := List.length_pos_iff.2 hz
 rcases h.2 with ⟨e, _⟩ | ⟨g, cap2, cur, e, hbase, hgb, r1, r2, r3, r4⟩
 ·cases e
 ·cases e
  have hH : Holds encZ W gb 0 (zs.mergeSort (fun x y => decide (x ≤ y))).toArray := holds_of_block_i hgb (by simpa using r4)
  have := (hH (zs.length / 2) (by simp; omega)).1
  rw [Nat.zero_add] at this
  rw [this]
  unfold Tryz.med encZ
  simp
set_option maxRecDepth 100000 in
set_option maxHeartbeats 2000000 in
theorem Tryz.median_in (n : Nat) (hn : 5 ≤ n) (b off cap : Nat) (zs : List Int) (hz : zs ≠ []) (hN : zs.length ≤ 1048576) (w : World)
  (hb : b < w.heap.size) (hc : ∀ j, j < zs.length → w.cell? ⟨b, off + j, none⟩ = some (.int .i64 (zs[j]?.getD 0))) :
  CallsIn Fence.wide n Tryz.prog 277 #[.slice (some ⟨b, off, none⟩) zs.length cap] w fun e w' => e = .returned (.int .i64 (Tryz.med zs)) ∧ Below w.heap.size w w' := by
 have h1 : 1 ≤ n := by omega
 have hp : 0 < zs.length := List.length_pos_iff.2 hz
 have hB0 : Below w.heap.size w (w.alloc (.cells #[.slice (some ⟨b, off, none⟩) zs.length cap] 39)) := (Below.refl _ w).alloc (Nat.le_refl _) _
 have bN := Boxed.new w 39 (.slice (some ⟨b, off, none⟩) zs.length cap)
 have cV := Tryz.values_in (n - 1) (some ⟨b, off, none⟩) zs.length cap w
 have cS := Tryz.sortedVals_in (n - 1) (by omega) w.heap.size b off cap zs hz (Nat.le_trans hN (by decide)) (by omega) (w.alloc (.cells #[.slice (some ⟨b, off, none⟩) zs.length cap] 39)) bN.cell (by simp) (by simp; omega) (fun j hj => (hB0.cell (p := ⟨b, off + j, none⟩) hb).trans (hc j hj))
 have hf : Fence.wide.fn 308 := trivial
 have hf2 : Fence.wide.fn 307 := trivial
 refine callsIn_of_wp Tryz.func277 rfl trivial ?_ rfl
 simp only [Tryz.ntmps277, List.size_toArray, List.length_cons, List.length_nil, Nat.reduceAdd, Nat.reduceSub, Array.replicate_succ, Array.replicate_zero, List.push_toArray, List.append_toArray, List.nil_append, List.cons_append]
 gi_wp2_with (first
  | (gi_at_call 308; refine cV.mono ?_; rintro e w' ⟨rfl, rfl⟩)
  | (gi_at_call 307; refine cS.mono ?_; rintro e w' ⟨gb, cap', rfl, hrow, hbb⟩; have hcell := Tryz.row_cell hrow hz))
 go_ret
 exact ⟨rfl, hB0.trans (hbb.mono (by simp))⟩
end Go.Proofs
namespace Go.Proofs.YteifdelnahccjaaGreatDoor
open Go.V
def iT (x : Int) : List V.T := [.int .i64 x]
theorem s277 (L : List Int) (nn : Bool) (hne : L ≠ []) (hL : L.length ≤ 1048576) : V.Pure En 277 [.one (.sl nn (L.map iT))] [.one (.int .i64 (Tryz.med L))] := by
 unfold V.Pure
 refine ⟨by kernel_rfl, fun I w vs hI hG hlen har => ?_⟩
 obtain ⟨v, rfl⟩ : ∃ v, vs = #[v] := by
  match vs, hlen with
  | ⟨[v]⟩, _ => exact ⟨v, rfl⟩
 have h0 := har 0 _ v rfl rfl
 cases h0 with
 | one x v h =>
  cases h with
  | sl _ _ a len cap sz rd hle hcap hnil hI2 hsz hrd hsub =>
   have hl2 : len = L.length := by rw [hle, List.length_map]
   subst hl2
   have hne2 : L.map iT ≠ [] := by simpa using hne
   match a, hnil, hI2, hrd with
   | none, hnil, _, _ => exact absurd (hnil rfl).2.1 hne2
   | some ⟨blk, off, spot⟩, _, hI2, hrd =>
    obtain ⟨e1, e2⟩ := hI2 _ rfl hne2
    dsimp only at e1 e2
    subst e1
    have h1 : sz = 1 := by
     match L, hne with
     | x :: r, _ => exact (hsz (iT x) (by simp)).symm
    subst h1
    have hc : ∀ j, j < L.length → w.cell? ⟨blk, off + j, none⟩ = some (.int .i64 (L[j]?.getD 0)) := fun j hj => by
     have hg : get2 (L.map iT) j 0 = some (.int .i64 (L[j]?.getD 0)) := by
      unfold get2; rw [List.getElem?_map, List.getElem?_eq_getElem hj]; rfl
     have q1 := hrd _ j 0 _ rfl hg
     have q2 := hsub j 0 _ hg
     generalize rd j 0 = z at q1 q2
     cases q2
     simpa using q1
    refine (callsIn_wide.1 (Tryz.median_in 5 (Nat.le_refl _) blk off cap L hne hL w (hI _ e2) hc)).mono ?_
    rintro e w' ⟨rfl, hb⟩
    exact ⟨_, rfl, hb, .one _ _ (.one _ _ (.int _ _))⟩
open Go.V
set_option linter.unusedVariables false
set_option linter.unusedSimpArgs false
set_option maxRecDepth 20000
set_option maxHeartbeats 4000000
noncomputable def pix {α : Type} (P : α → Prop) : List α → Nat → Int
 | [], _ => -1
 | s :: r, k => haveI := Classical.propDecidable (P s); if P s then k else pix P r (k + 1)
theorem pix_y {α : Type} {P : α → Prop} {d : α} {L : List α} {i : Nat} (h : i < L.length) (hp : P (L.getD i d)) : pix P (L.drop i) i = (i : Int) := by
 rw [show L.getD i d = L[i] by simp [h]] at hp
 rw [List.drop_eq_getElem_cons h]
 unfold pix
 rw [if_pos hp]
theorem pix_n {α : Type} {P : α → Prop} {d : α} {L : List α} {i : Nat} (h : i < L.length) (hp : ¬ P (L.getD i d)) : pix P (L.drop i) i = pix P (L.drop (i + 1)) (i + 1) := by
 rw [show L.getD i d = L[i] by simp [h]] at hp
 conv => lhs; rw [List.drop_eq_getElem_cons h]
 conv => lhs; unfold pix
 rw [if_neg hp]
theorem X3 {α : Type} {P : α → Prop} {L : List α} {i : Nat} (h : L.length ≤ i) : pix P (L.drop i) i = -1 := by rw [List.drop_eq_nil_of_le h]; rfl
theorem F3 {α : Type} {P : α → Prop} : ∀ (L : List α) (k : Nat), 0 ≤ pix P L k ↔ ∃ x ∈ L, P x
 | [], k => ⟨fun h => by have q : (0 : Int) ≤ -1 := h; omega, fun ⟨x, hx, _⟩ => by cases hx⟩
 | s :: r, k => by
  unfold pix
  by_cases c : P s
  ·rw [if_pos c]; exact ⟨fun _ => ⟨s, List.mem_cons_self .., c⟩, fun _ => by omega⟩
  ·rw [if_neg c, F3 r (k + 1)]
   exact ⟨fun ⟨x, hx, h⟩ => ⟨x, List.mem_cons_of_mem _ hx, h⟩, fun ⟨x, hx, h⟩ => by
    rcases List.mem_cons.1 hx with e | e
    ·rw [e] at h; exact absurd h c
    ·exact ⟨x, e, h⟩⟩
noncomputable instance dcEx (L : List Msg) (d : ByteArray) : Decidable (∃ x ∈ L, x.dg ≠ d) := Classical.propDecidable _
def arS (n kd vw sq : Int) (L : List Msg) (i : Nat) : Prop := (L.getD i Msg0).kd = kd ∧ (L.getD i Msg0).vw = vw ∧ (L.getD i Msg0).sq = sq ∧ (nodes n ∧ sgd mk bare n (L.getD i Msg0)) ∧ (0 < i → (L.getD (i - 1) Msg0).fr < (L.getD i Msg0).fr)
noncomputable instance dcAr (n kd vw sq : Int) (L : List Msg) : Decidable (∀ i, i < L.length → arS n kd vw sq L i) := Classical.propDecidable _
theorem s140 (n : Int) (hn : nodes n) : Pure En 140 [.one (.int .i64 n)] [.one (.int .i64 (quo n))] := by
 rcases hn with rfl | rfl | rfl
 all_goals
  refine Pure.of_ev (st := []) Tryz.func140 rfl kb ?_
  refine C0 ?_
  refine B9 ?_
  refine C0 ?_
  refine C0 ?_
  exact B4 rfl rfl
theorem s84 (c : Ct) (b : Bool) (hc : 0 < c.ps.length) : Pure En 84 [.agg (c.T b)] [.one (.int .i64 c.sq)] := by
 have hl : (c.ps.map Msg.T).length = c.ps.length := List.length_map ..
 refine Pure.of_ev (st := []) Tryz.func84 rfl kb ?_
 refine A1 ?_
 (refine B9 (C5 (by first | rfl | assumption | (exact B2 Msg.T Msg0 (k := 0) hc)) rfl ?_))
 exact B4 rfl rfl
theorem s85 (c : Ct) (b : Bool) (hc : 0 < c.ps.length) : Pure En 85 [.agg (c.T b)] [.one (.int .i64 c.vw)] := by
 have hl : (c.ps.map Msg.T).length = c.ps.length := List.length_map ..
 refine Pure.of_ev (st := []) Tryz.func85 rfl kb ?_
 refine A1 ?_
 (refine B9 (C5 (by first | rfl | assumption | (exact B2 Msg.T Msg0 (k := 0) hc)) rfl ?_))
 exact B4 rfl rfl
theorem o160 (m : Msg) (d : ByteArray) {id : Nat} {h : Heap} {n : Nat} (hid : id < n) (hh : h id = some ⟨[[.str d]], 1, 9⟩) : V.Open En 160 [.agg m.V, .ptr id 0 0] h n (.bool (decide (m.dg ≠ d))) [] (n + 1) := by
 refine V.Open.of_ev (st := []) Tryz.func160 rfl kb ?_
 refine A1 ?_
 refine A1 ?_
 refine br ?_ ?_ <;> intro h1_3
 ·first
   | (rw [decide_eq_true (by assumption)]; exact fiO rfl rfl (leWr (fun j hj => absurd hj List.not_mem_nil) (fun j hj hn => by simp (disch := omega) only [↓app0, ↓appC, ↓updS, ↓updN])) (Nat.le_refl _))
   | (rw [decide_eq_false (by assumption)]; exact fiO rfl rfl (leWr (fun j hj => absurd hj List.not_mem_nil) (fun j hj hn => by simp (disch := omega) only [↓app0, ↓appC, ↓updS, ↓updN])) (Nat.le_refl _))
 ·first
   | (rw [decide_eq_true (by assumption)]; exact fiO rfl rfl (leWr (fun j hj => absurd hj List.not_mem_nil) (fun j hj hn => by simp (disch := omega) only [↓app0, ↓appC, ↓updS, ↓updN])) (Nat.le_refl _))
   | (rw [decide_eq_false (by assumption)]; exact fiO rfl rfl (leWr (fun j hj => absurd hj List.not_mem_nil) (fun j hj hn => by simp (disch := omega) only [↓app0, ↓appC, ↓updS, ↓updN])) (Nat.le_refl _))
theorem o170 (fr b : Bool) (L : List Msg) (d : ByteArray) (hL : L.length ≤ 1048576) {id : Nat} {h : Heap} {n : Nat} (hid : id < n) (hh : h id = some ⟨[[.str d]], 1, 9⟩) : V.Open En 170 [.sl fr b (L.map Msg.T), .clo 160 [.ptr id 0 0]] h n (.int .i64 (pix (fun x : Msg => x.dg ≠ d) L 0)) [] (n + L.length) := by
 have hl : (L.map Msg.T).length = L.length := List.length_map ..
 refine V.Open.of_ev (st := []) Tryz.func170 rfl kb ?_
 refine B3 (fun (a : Nat × Nat) => [.sl fr b (L.map Msg.T), .clo 160 [.ptr id 0 0], .unk, .unk, .unk, .unk, .unk, .int .i64 (L.map Msg.T).length, .int .i64 a.1]) (fun (a : Nat × Nat) => h) (fun (a : Nat × Nat) => a.2) (fun (a : Nat × Nat) => a.1 ≤ L.length ∧ pix (fun x : Msg => x.dg ≠ d) (L.drop a.1) a.1 = pix (fun x : Msg => x.dg ≠ d) L 0 ∧ n + a.1 = a.2) (fun (a : Nat × Nat) => L.length - a.1) (0, n) ?_ ?_ ?_ ?_ ?_
 ·exact ⟨Nat.zero_le _, rfl, rfl⟩
 ·(repeat first | exact LE.nil _ | refine LE.unk _ _ ?_ | refine LE.eq _ _ _ rfl ?_)
 ·exact LessH.refl _
 ·exact Nat.le_refl _
 intro ⟨i, m⟩ hI ih
 obtain ⟨q0, q1, q2⟩ := hI
 dsimp only at q0 q1 q2 ⊢
 refine A6 (st := []) ?_
 refine br ?_ ?_ <;> intro h2_0
 ·(refine B9 (C5 (by first | rfl | assumption | (exact B2 Msg.T Msg0 (k := i) (by omega))) rfl ?_))
  refine N2 (o160 (L.getD i Msg0) d (n := m) (by omega) hh) rfl j2 ?_ ?_
  all_goals intro h4_5
  ·rw [← q1, pix_y (d := Msg0) (L := L) (i := i) (by omega) (of_decide_eq_true h4_5)]; exact fiO rfl rfl (fun _ _ _ e => e) (by omega)
  ·refine C0 ?_
   have e1 := (pix_n (P := fun x : Msg => x.dg ≠ d) (d := Msg0) (L := L) (i := i) (by omega) (of_decide_eq_false h4_5)).symm.trans q1
   exact C6 (ih (i + 1, m + 1) ⟨by dsimp only; omega, e1, by dsimp only; omega⟩ (by dsimp only; omega)) (by (repeat first | exact LE.nil _ | refine LE.unk _ _ ?_ | refine LE.eq _ _ _ rfl ?_)) (LessH.refl _) (Nat.le_refl _)
 ·rw [← q1, X3 (L := L) (i := i) (by omega)]; exact fiO rfl rfl (fun _ _ _ e => e) (by omega)
theorem o98 (fr b : Bool) (L : List Msg) (d : ByteArray) (hL : L.length ≤ 1048576) {id : Nat} {h : Heap} {n : Nat} (hid : id < n) (hh : h id = some ⟨[[.str d]], 1, 9⟩) : V.Open En 98 [.sl fr b (L.map Msg.T), .clo 160 [.ptr id 0 0]] h n (.bool (decide (∃ x ∈ L, x.dg ≠ d))) [] (n + L.length) := by
 refine V.Open.of_ev (st := []) Tryz.func98 rfl kb ?_
 refine L6 (o170 fr b L d hL hid hh) rfl rfl rfl ?_
 refine br ?_ ?_ <;> intro h1_3
 ·first
  | (rw [decide_eq_true ((F3 L 0).1 (by omega))]; exact fiO rfl rfl (fun _ _ _ e => e) (Nat.le_refl _))
  | (rw [decide_eq_false (fun q => by have := (F3 (P := fun x : Msg => x.dg ≠ d) L 0).2 q; omega)]; exact fiO rfl rfl (fun _ _ _ e => e) (Nat.le_refl _))
 ·first
  | (rw [decide_eq_true ((F3 L 0).1 (by omega))]; exact fiO rfl rfl (fun _ _ _ e => e) (Nat.le_refl _))
  | (rw [decide_eq_false (fun q => by have := (F3 (P := fun x : Msg => x.dg ≠ d) L 0).2 q; omega)]; exact fiO rfl rfl (fun _ _ _ e => e) (Nat.le_refl _))
theorem s158 (n kd vw sq : Int) (L : List Msg) (b : Bool) (hL : L.length ≤ 1048576) : Pure En 158 [.one (.int .i64 n), .one (.sl b (L.map Msg.T)), .one (.int .i64 kd), .one (.int .i64 vw), .one (.int .i64 sq)] [.one (.bool (decide (∀ i, i < L.length → arS n kd vw sq L i)))] := by
 have hl : (L.map Msg.T).length = L.length := List.length_map ..
 refine Pure.of_ev (st := []) Tryz.func158 rfl kb ?_
 refine B3 (fun (a : Nat × Nat) => [.int .i64 n, .sl false b (L.map Msg.T), .int .i64 kd, .int .i64 vw, .int .i64 sq, .unk, .unk, .unk, .unk, .unk, .unk, .unk, .unk, .sl false b (L.map Msg.T), .int .i64 (L.map Msg.T).length, .int .i64 a.1]) (fun (a : Nat × Nat) => fun _ => none) (fun (a : Nat × Nat) => a.2) (fun (a : Nat × Nat) => a.1 ≤ L.length ∧ ∀ j, j < a.1 → arS n kd vw sq L j) (fun (a : Nat × Nat) => L.length - a.1) ⟨0, 0⟩ ?_ ?_ ?_ ?_ ?_
 ·exact ⟨Nat.zero_le _, E6⟩
 ·(repeat first | exact LE.nil _ | refine LE.unk _ _ ?_ | refine LE.eq _ _ _ rfl ?_)
 ·exact LessH.refl _
 ·exact Nat.le_refl _
 intro ⟨i, m⟩ hI ih
 obtain ⟨q0, q1⟩ := hI
 dsimp only at q0 q1 ⊢
 refine A6 (st := []) ?_
 refine br ?_ ?_ <;> intro h2_0
 ·(refine B9 (C5 (by first | rfl | assumption | (first | exact B2 Msg.T Msg0 (k := i) (by omega) | (have e : ((i : Int) - 1).toNat = i - 1 := (by omega); rw [e]; exact B2 Msg.T Msg0 (k := i - 1) (by omega)))) rfl ?_))
  (apply est (u := .agg [.int _ _, .int _ _, .int _ _, .int _ _, .str _, .str _, .str _]) j3; exact Q0; rfl; exact j4; exact kb; rfl)
  refine A1 ?_
  refine br ?_ ?_ <;> intro h4_3
  ·refine A7 rfl (fun e => ?_); obtain ⟨e1, e2, e3, e4, e5⟩ := e i (by omega); first | omega | exact h4_19 e4 | (have := e5 (by omega); omega)
  ·refine A1 ?_
   refine br ?_ ?_ <;> intro h4_8
   ·refine A7 rfl (fun e => ?_); obtain ⟨e1, e2, e3, e4, e5⟩ := e i (by omega); first | omega | exact h4_19 e4 | (have := e5 (by omega); omega)
   ·refine A1 ?_
    refine br ?_ ?_ <;> intro h4_14
    ·refine A7 rfl (fun e => ?_); obtain ⟨e1, e2, e3, e4, e5⟩ := e i (by omega); first | omega | exact h4_19 e4 | (have := e5 (by omega); omega)
    ·(apply C3 (vs := [.int _ _, .int _ _, .int _ _, .int _ _, .str _, .str _, .str _]) j2; exact Q0; rfl; rfl; exact kb; rfl)
     refine B0 (s55 n (L.getD i Msg0)) rfl j2 ?_ ?_ <;> intro h4_19
     ·refine br ?_ ?_ <;> intro h4_24
      ·refine C0 ?_
       (refine B9 (C5 (by first | rfl | assumption | (first | exact B2 Msg.T Msg0 (k := i) (by omega) | (have e : ((i : Int) - 1).toNat = i - 1 := (by omega); rw [e]; exact B2 Msg.T Msg0 (k := i - 1) (by omega)))) rfl ?_))
       refine A1 ?_
       refine br ?_ ?_ <;> intro h4_34
       ·refine A7 rfl (fun e => ?_); obtain ⟨e1, e2, e3, e4, e5⟩ := e i (by omega); first | omega | exact h4_19 e4 | (have := e5 (by omega); omega)
       ·refine C0 ?_
        exact C6 (ih ⟨i + 1, m + 1⟩ ⟨by dsimp only; omega, C8 q1 ⟨by omega, by omega, by omega, h4_19, fun _ => by omega⟩⟩ (by dsimp only; omega)) (by (repeat first | exact LE.nil _ | refine LE.unk _ _ ?_ | refine LE.eq _ _ _ rfl ?_)) (by (repeat first | exact A5 | (refine A4 ?_ ?_; exact H8))) (Nat.le_refl _)
      ·refine C0 ?_
       exact C6 (ih ⟨i + 1, m + 1⟩ ⟨by dsimp only; omega, C8 q1 ⟨by omega, by omega, by omega, h4_19, fun _ => by omega⟩⟩ (by dsimp only; omega)) (by (repeat first | exact LE.nil _ | refine LE.unk _ _ ?_ | refine LE.eq _ _ _ rfl ?_)) (by (repeat first | exact A5 | (refine A4 ?_ ?_; exact H8))) (Nat.le_refl _)
     ·refine A7 rfl (fun e => ?_); obtain ⟨e1, e2, e3, e4, e5⟩ := e i (by omega); first | omega | exact h4_19 e4 | (have := e5 (by omega); omega)
 ·exact B7 rfl (fun j hj => q1 j (by omega))
open Go.V
set_option linter.unusedVariables false
set_option linter.unusedSimpArgs false
set_option maxRecDepth 20000
set_option maxHeartbeats 4000000
def iV (x : Int) : List V := [.int .i64 x]
theorem rowsI (L : List Int) : rowsV (L.map iT) = L.map iV := by unfold rowsV; rw [List.map_map]; rfl
def tmR (n : Int) (rs : List Rg) (i : Nat) : Prop := ((rs.getD i Rg0).OK ∧ (rs.getD i Rg0).fr < n ∧ (rs.getD i Rg0).mc = rdM (rs.getD i Rg0).fr (rs.getD i Rg0).vl) ∧ (0 < i → (rs.getD (i - 1) Rg0).fr < (rs.getD i Rg0).fr)
noncomputable instance dcTm (n : Int) (rs : List Rg) : Decidable (timeOK rdM n rs) := Classical.propDecidable _
def vlL (rs : List Rg) : Nat → List Int
 | 0 => []
 | i + 1 => vlL rs i ++ [(rs.getD i Rg0).vl]
theorem S6 (rs : List Rg) : ∀ i, (vlL rs i).length = i
 | 0 => rfl
 | i + 1 => by show (vlL rs i ++ [_]).length = _; rw [List.length_append, S6 rs i]; rfl
theorem vlL_tk {r : List Rg} : ∀ {i : Nat}, i ≤ r.length → vlL r i = (r.take i).map Rg.vl
 | 0, _ => rfl
 | i + 1, h => by
  show vlL r i ++ [(r.getD i Rg0).vl] = _
  rw [vlL_tk (by omega), List.take_succ_eq_append_getElem (by omega), List.map_append, show r.getD i Rg0 = r[i] by simp [show i < r.length by omega]]; rfl
theorem vlL_all (r : List Rg) : vlL r r.length = r.map Rg.vl := by rw [vlL_tk (Nat.le_refl _), List.take_length]
noncomputable def tmX (n : Int) (rs : List Rg) : Int := if timeOK rdM n rs then Tryz.med (rs.map Rg.vl) else 0
theorem P3 {n : Int} (h : nodes n) : 1 ≤ quo n ∧ quo n ≤ 5 := by
 rcases quo_v h with h | h | h <;> omega
structure TS where
 i : Nat
 o : V
 b : Nat
 m : Nat
 g : Heap
structure TI (n : Int) (rs : List Rg) (a : TS) : Prop where
 il : a.i ≤ rs.length
 out : LsOK iV 1 3 0 (vlL rs a.i) a.o a.b a.m a.g
 ok : ∀ j, j < a.i → tmR n rs j
theorem s229 (n : Int) (hn : nodes n) (rs : List Rg) (b : Bool) : Pure En 229 [.one (.int .i64 n), .one (.sl b (rs.map Rg.T))] [.one (.int .i64 (tmX n rs)), .one (.bool (decide (timeOK rdM n rs)))] := by
 have hl : (rs.map Rg.T).length = rs.length := List.length_map ..
 have hq := P3 hn
 refine Pure.of_ev (st := [10]) Tryz.func229 rfl kb ?_
 refine C1 (s140 n hn) rfl rfl rfl ?_
 refine br ?_ ?_ <;> intro h1_4
 ·have hno : ¬ timeOK rdM n rs := fun e => by have := e.1; omega
  rw [show tmX n rs = 0 from if_neg hno, decide_eq_false hno]
  exact B4 rfl rfl
 ·refine B3 (fun (a : TS) => [.int .i64 n, .sl false b (rs.map Rg.T), .unk, .unk, .unk, .unk, a.o, .unk, .unk, .unk, .unk, .unk, .unk, .unk, .sl false b (rs.map Rg.T), .int .i64 (rs.map Rg.T).length, .int .i64 a.i]) (fun (a : TS) => a.g) (fun (a : TS) => a.m) (fun (a : TS) => TI n rs a) (fun (a : TS) => rs.length - a.i) ⟨0, .nsl, 0, 0, fun _ => none⟩ ?_ ?_ ?_ ?_ ?_
  ·exact ⟨Nat.zero_le _, .inl ⟨rfl, rfl⟩, E6⟩
  ·(repeat first | exact LE.nil _ | refine LE.unk _ _ ?_ | refine LE.eq _ _ _ rfl ?_)
  ·exact LessH.refl _
  ·exact Nat.le_refl _
  intro ⟨i, o, bb, m, g⟩ hI ih
  have q0 := hI.il
  have hok := hI.ok
  dsimp only at q0 hok ⊢
  have hrl := S6 rs i
  rcases hI.out with ⟨e0, e1⟩ | ⟨e1, hbO2, hbO⟩
  all_goals dsimp only at e1
  ·skip
   obtain rfl : i = 0 := by rw [e0] at hrl; exact hrl.symm
   subst e1
   refine A6 (st := [10]) ?_
   refine br ?_ ?_ <;> intro h5_0
   ·(refine B9 (C5 (by first | rfl | assumption | (first | exact B2 Rg.T Rg0 (k := 0) (by omega) | (exfalso; omega))) rfl ?_))
    (apply est (u := .agg [.int _ _, .int _ _, .str _]) j3; exact Q0; exact Q2; exact j4; exact kb; rfl)
    (apply C3 (vs := [.int _ _, .int _ _, .str _]) j2; exact Q0; exact Q2; rfl; exact kb; rfl)
    refine B0 (s275 (rs.getD 0 Rg0)) rfl j2 ?_ ?_ <;> intro h7_1
    ·refine A1 ?_ (by exact Q0) (by exact Q2)
     refine br ?_ ?_ <;> intro h7_7
     ·have hno : ¬ timeOK rdM n rs := fun e => by
       obtain ⟨⟨e1, e2, e3⟩, e4⟩ := e.2 0 (by omega)
       first
       | exact h7_1 e1
       | omega
       | (have := e4 (by omega); omega)
       | exact h7_32 e3
      rw [show tmX n rs = 0 from if_neg hno, decide_eq_false hno]
      exact B4 rfl rfl
     ·refine br (fun h => absurd h ((by omega))) ?_
      intro h7_11
      refine A1 ?_ (by exact Q0) (by exact Q2)
      refine A1 ?_ (by exact Q0) (by exact Q2)
      refine A1 ?_ (by exact Q0) (by exact Q2)
      refine C1 (s276 _ _) rfl rfl rfl ?_
      refine br ?_ ?_ <;> intro h7_32
      ·have hno : ¬ timeOK rdM n rs := fun e => by
        obtain ⟨⟨e1, e2, e3⟩, e4⟩ := e.2 0 (by omega)
        first
        | exact h7_1 e1
        | omega
        | (have := e4 (by omega); omega)
        | exact h7_32 e3
       rw [show tmX n rs = 0 from if_neg hno, decide_eq_false hno]
       exact B4 rfl rfl
      ·refine A1 ?_ (by exact Q0) (by exact Q2)
       refine F7 (es := [[.int _ _]]) j4 kz kb rfl rfl ?_
       (apply ean (s' := 8) (es := [[.int _ _]]) rfl j3 kz; exact L7; exact Q3; exact Q6; exact Q6; exact Q6)
       refine O4 fun G hG => ?_
       refine C0 ?_
       have hit : tmR n rs 0 := ⟨⟨h7_1, by omega, Classical.not_not.1 h7_32⟩, fun _ => by omega⟩
       refine C6 (ih ⟨0 + 1, .view (m + 1 + 1) 0 1, m + 1 + 1, m + 1 + 1 + 1, G⟩ ⟨by dsimp only; omega, .inr ⟨?_, ?_, by dsimp only; omega, by dsimp only; omega⟩, fun j hj => ?_⟩ (by dsimp only; omega)) (by (repeat first | exact LE.nil _ | refine LE.unk _ _ ?_ | refine LE.eq _ _ _ rfl ?_)) (LessH.refl _) (Nat.le_refl _)
       ·show V.view _ 0 _ = V.view _ 0 (vlL rs 0 ++ [_]).length; rw [List.length_append]; rfl
       ·dsimp only; rw [hG]; show _ = some (Blk.mk ((vlL rs 0 ++ [_]).map iV) 1 3); rw [List.map_append]; exact Q0
       ·rcases Nat.lt_succ_iff_lt_or_eq.1 hj with q | q
        ·exact hok j q
        ·rw [q]; exact hit
    ·have hno : ¬ timeOK rdM n rs := fun e => by
      obtain ⟨⟨e1, e2, e3⟩, e4⟩ := e.2 0 (by omega)
      first
      | exact h7_1 e1
      | omega
      | (have := e4 (by omega); omega)
      | exact h7_32 e3
     rw [show tmX n rs = 0 from if_neg hno, decide_eq_false hno]
     exact B4 rfl rfl
   ·exfalso; omega
  ·skip
   dsimp only at hbO2 hbO
   subst e1
   refine A6 (st := [10]) ?_
   refine br ?_ ?_ <;> intro h5_0
   ·(refine B9 (C5 (by first | rfl | assumption | exact Q36) rfl ?_))
    (apply est (u := .agg [.int _ _, .int _ _, .str _]) j3; exact Q0; exact Q2; exact j4; exact kb; rfl)
    (apply C3 (vs := [.int _ _, .int _ _, .str _]) j2; exact Q0; exact Q2; rfl; exact kb; rfl)
    refine B0 (s275 (rs.getD i Rg0)) rfl j2 ?_ ?_ <;> intro h7_1
    ·refine A1 ?_ (by exact Q0) (by exact Q2)
     refine br ?_ ?_ <;> intro h7_7
     ·have hno : ¬ timeOK rdM n rs := fun e => by
       obtain ⟨⟨e1, e2, e3⟩, e4⟩ := e.2 i (by omega)
       first
       | exact h7_1 e1
       | omega
       | (have := e4 (by omega); omega)
       | exact h7_32 e3
      rw [show tmX n rs = 0 from if_neg hno, decide_eq_false hno]
      exact B4 rfl rfl
     ·refine br ?_ ?_ <;> intro h7_11
      ·refine C0 ?_
       (refine B9 (C5 (by first | rfl | assumption | exact Q36) rfl ?_))
       refine A1 ?_ (by exact Q0) (by exact Q2)
       refine br ?_ ?_ <;> intro h7_21
       ·have hno : ¬ timeOK rdM n rs := fun e => by
         obtain ⟨⟨e1, e2, e3⟩, e4⟩ := e.2 i (by omega)
         first
         | exact h7_1 e1
         | omega
         | (have := e4 (by omega); omega)
         | exact h7_32 e3
        rw [show tmX n rs = 0 from if_neg hno, decide_eq_false hno]
        exact B4 rfl rfl
       ·refine A1 ?_ (by exact Q0) (by exact Q2)
        refine A1 ?_ (by exact Q0) (by exact Q2)
        refine A1 ?_ (by exact Q0) (by exact Q2)
        refine C1 (s276 _ _) rfl rfl rfl ?_
        refine br ?_ ?_ <;> intro h7_32
        ·have hno : ¬ timeOK rdM n rs := fun e => by
          obtain ⟨⟨e1, e2, e3⟩, e4⟩ := e.2 i (by omega)
          first
          | exact h7_1 e1
          | omega
          | (have := e4 (by omega); omega)
          | exact h7_32 e3
         rw [show tmX n rs = 0 from if_neg hno, decide_eq_false hno]
         exact B4 rfl rfl
        ·refine A1 ?_ (by exact Q0) (by exact Q2)
         refine F7 (es := [[.int _ _]]) j4 kz kb rfl rfl ?_
         (apply eap (s' := 8) (es := [[.int _ _]]) rfl rfl; exact Q0; exact j2; exact Q29; exact j2; exact kz; exact L7; exact Q3; exact Q6; exact Q6)
         refine O4 fun G hG => ?_
         refine C0 ?_
         have hit : tmR n rs i := ⟨⟨h7_1, by omega, Classical.not_not.1 h7_32⟩, fun _ => by omega⟩
         refine C6 (ih ⟨i + 1, .view (m + 1 + 1) 0 ((vlL rs i).length + 1), m + 1 + 1, m + 1 + 1 + 1, G⟩ ⟨by dsimp only; omega, .inr ⟨?_, ?_, by dsimp only; omega, by dsimp only; omega⟩, fun j hj => ?_⟩ (by dsimp only; omega)) (by (repeat first | exact LE.nil _ | refine LE.unk _ _ ?_ | refine LE.eq _ _ _ rfl ?_)) (LessH.refl _) (Nat.le_refl _)
         ·show V.view _ 0 _ = V.view _ 0 (vlL rs i ++ [_]).length; rw [List.length_append]; rfl
         ·dsimp only; rw [hG]; show _ = some (Blk.mk ((vlL rs i ++ [_]).map iV) 1 3); rw [List.map_append]; exact Q0
         ·rcases Nat.lt_succ_iff_lt_or_eq.1 hj with q | q
          ·exact hok j q
          ·rw [q]; exact hit
      ·refine A1 ?_ (by exact Q0) (by exact Q2)
       refine A1 ?_ (by exact Q0) (by exact Q2)
       refine A1 ?_ (by exact Q0) (by exact Q2)
       refine C1 (s276 _ _) rfl rfl rfl ?_
       refine br ?_ ?_ <;> intro h7_32
       ·have hno : ¬ timeOK rdM n rs := fun e => by
         obtain ⟨⟨e1, e2, e3⟩, e4⟩ := e.2 i (by omega)
         first
         | exact h7_1 e1
         | omega
         | (have := e4 (by omega); omega)
         | exact h7_32 e3
        rw [show tmX n rs = 0 from if_neg hno, decide_eq_false hno]
        exact B4 rfl rfl
       ·refine A1 ?_ (by exact Q0) (by exact Q2)
        refine F7 (es := [[.int _ _]]) j4 kz kb rfl rfl ?_
        (apply eap (s' := 8) (es := [[.int _ _]]) rfl rfl; exact Q0; exact j2; exact Q29; exact j2; exact kz; exact L7; exact Q3; exact Q6; exact Q6)
        refine O4 fun G hG => ?_
        refine C0 ?_
        have hit : tmR n rs i := ⟨⟨h7_1, by omega, Classical.not_not.1 h7_32⟩, fun _ => by omega⟩
        refine C6 (ih ⟨i + 1, .view (m + 1 + 1) 0 ((vlL rs i).length + 1), m + 1 + 1, m + 1 + 1 + 1, G⟩ ⟨by dsimp only; omega, .inr ⟨?_, ?_, by dsimp only; omega, by dsimp only; omega⟩, fun j hj => ?_⟩ (by dsimp only; omega)) (by (repeat first | exact LE.nil _ | refine LE.unk _ _ ?_ | refine LE.eq _ _ _ rfl ?_)) (LessH.refl _) (Nat.le_refl _)
        ·show V.view _ 0 _ = V.view _ 0 (vlL rs i ++ [_]).length; rw [List.length_append]; rfl
        ·dsimp only; rw [hG]; show _ = some (Blk.mk ((vlL rs i ++ [_]).map iV) 1 3); rw [List.map_append]; exact Q0
        ·rcases Nat.lt_succ_iff_lt_or_eq.1 hj with q | q
         ·exact hok j q
         ·rw [q]; exact hit
    ·have hno : ¬ timeOK rdM n rs := fun e => by
      obtain ⟨⟨e1, e2, e3⟩, e4⟩ := e.2 i (by omega)
      first
      | exact h7_1 e1
      | omega
      | (have := e4 (by omega); omega)
      | exact h7_32 e3
     rw [show tmX n rs = 0 from if_neg hno, decide_eq_false hno]
     exact B4 rfl rfl
   ·have hvn : vlL rs i ≠ [] := fun e => by rw [e] at hrl; simp at hrl; omega
    apply eclS [bb] (s277 (vlL rs i) true hvn (by omega)) rfl rfl rfl
    ·exact SnapL.cons _ _ _ _ (.one _ _ (B5 (b := ⟨(vlL rs i).map iV, 1, 3⟩) ((vlL rs i).map iT) (List.mem_singleton.2 rfl) (by exact Q0) (rowsI _).symm (List.length_map ..).symm)) SnapL.nil
    obtain rfl : i = rs.length := by omega
    have hyes : timeOK rdM n rs := ⟨by omega, hok⟩
    rw [show tmX n rs = Tryz.med (vlL rs rs.length) from (if_pos hyes).trans (by rw [vlL_all]), decide_eq_true hyes]
    exact B4 rfl rfl
open Go.V
set_option linter.unusedVariables false
set_option linter.unusedSimpArgs false
set_option maxRecDepth 20000
set_option maxHeartbeats 4000000
noncomputable def bZ (p : ByteArray) : Bt := if bOK p then bX p else BtZ
noncomputable def btT (n : Int) (p : ByteArray) : Int := if bOK p ∧ (bX p).nl = false then tmX n (bX p).rs else 0
noncomputable instance dcBo (n : Int) (p : ByteArray) : Decidable (bodyOK rdM n p) := Classical.propDecidable _
noncomputable instance dcCt (n : Int) (c : Ct) : Decidable (nodes n ∧ ctOK mk bare rdM dgB n c) := Classical.propDecidable _
theorem bZ_y {p : ByteArray} (h : bOK p) : bZ p = bX p := if_pos h
theorem ct_iff {n : Int} {c : Ct} (hn : nodes n) : (∀ i, i < c.ps.length → arS n 2 c.vw c.sq c.ps i) ∧ ¬ (∃ x ∈ c.ps, x.dg ≠ dgB c.bd) ↔ ∀ i, i < c.ps.length → pOK mk bare dgB n c i := by
 constructor
 ·rintro ⟨h1, h2⟩ i hi
  obtain ⟨e1, e2, e3, ⟨_, e4⟩, e5⟩ := h1 i hi
  refine ⟨e1, e4, ?_, e2, e3, e5⟩
  refine Classical.byContradiction fun q => h2 ⟨c.ps.getD i Msg0, ?_, q⟩
  rw [show c.ps.getD i Msg0 = c.ps[i] by simp [hi]]; exact List.getElem_mem hi
 ·intro h
  refine ⟨fun i hi => ?_, ?_⟩
  ·obtain ⟨e1, e2, e3, e4, e5, e6⟩ := h i hi
   exact ⟨e1, e4, e5, ⟨hn, e2⟩, e6⟩
  ·rintro ⟨x, hx, hd⟩
   obtain ⟨i, hi, e⟩ := List.getElem_of_mem hx
   obtain ⟨_, _, e3, _⟩ := h i hi
   rw [show c.ps.getD i Msg0 = x by simp [hi, e]] at e3
   exact hd e3
theorem s161 (n : Int) (hn : nodes n) (p : ByteArray) : Pure En 161 [.one (.int .i64 n), .one (.str p)] [.agg ((bZ p).T false), .one (.int .i64 (btT n p)), .one (.bool (decide (bodyOK rdM n p)))] := by
 have h228 : Pure En 228 [.one (.str p)] [.agg ((bZ p).T false), .one (.bool (decide (bOK p)))] := s228 p
 refine Pure.of_ev (st := []) Tryz.func161 rfl kb ?_
 refine C1 h228 rfl rfl rfl ?_
 refine brB ?_ ?_ <;> intro h1_4
 ·(apply est (u := .agg [.bool _, .int _ _, .int _ _, .int _ _, .int _ _, .str _, _]) j3; exact Q0; exact Q2; exact j4; exact kb; rfl)
  refine A1 ?_ (by exact Q0) (by exact Q2)
  refine brB ?_ ?_ <;> intro h2_4
  ·(apply C3 (vs := [.bool _, .int _ _, .int _ _, .int _ _, .int _ _, .str _, _]) j2; exact Q0; exact Q2; rfl; exact kb; rfl)
   (apply est (u := .agg [.bool _, .int _ _, .int _ _, .int _ _, .int _ _, .str _, _]) j3; exact Q0; exact Q2; exact j4; exact kb; rfl)
   first
   | (have hb : ¬ bOK p := of_decide_eq_false h1_4
      rw [show btT n p = 0 from if_neg (fun q => hb q.1), decide_eq_false (fun q : bodyOK rdM n p => hb q.1)]
      refine C9 [] (A0 (A3 rfl (by exact Q0) j2 kb rfl) (A0 rfl (A0 rfl A2))) ?_
      exact (SnapL.cons _ _ _ _ (SnapC.agg (.cons _ _ _ _ (.bool _) (.cons _ _ _ _ (.int _ _) (.cons _ _ _ _ (.int _ _) (.cons _ _ _ _ (.int _ _) (.cons _ _ _ _ (.int _ _) (.cons _ _ _ _ (.str _) (.cons _ _ _ _ (.sl true false _ (fun _ => .inl rfl)) .nil)))))))) (SnapL.cons _ _ _ _ (.one _ _ (.int _ _)) (SnapL.cons _ _ _ _ (.one _ _ (.bool _)) SnapL.nil))))
   | (have hb : bOK p := of_decide_eq_true h1_4
      have hz : (bX p).nl = true := by rw [← bZ_y hb]; exact h2_4
      rw [show btT n p = 0 from if_neg (fun q => by have := q.2; rw [hz] at this; cases this), decide_eq_true (show bodyOK rdM n p from ⟨hb, .inl hz⟩)]
      refine C9 [] (A0 (A3 rfl (by exact Q0) j2 kb rfl) (A0 rfl (A0 rfl A2))) ?_
      exact (SnapL.cons _ _ _ _ (SnapC.agg (.cons _ _ _ _ (.bool _) (.cons _ _ _ _ (.int _ _) (.cons _ _ _ _ (.int _ _) (.cons _ _ _ _ (.int _ _) (.cons _ _ _ _ (.int _ _) (.cons _ _ _ _ (.str _) (.cons _ _ _ _ (.sl true false _ (fun _ => .inl rfl)) .nil)))))))) (SnapL.cons _ _ _ _ (.one _ _ (.int _ _)) (SnapL.cons _ _ _ _ (.one _ _ (.bool _)) SnapL.nil))))
  ·refine A1 ?_ (by exact Q0) (by exact Q2)
   refine C1 (s229 n hn (bZ p).rs false) rfl rfl rfl ?_
   refine brB ?_ ?_ <;> intro h4_6
   ·(apply C3 (vs := [.bool _, .int _ _, .int _ _, .int _ _, .int _ _, .str _, _]) j2; exact Q0; exact Q2; rfl; exact kb; rfl)
    (apply est (u := .agg [.bool _, .int _ _, .int _ _, .int _ _, .int _ _, .str _, _]) j3; exact Q0; exact Q2; exact j4; exact kb; rfl)
    have hb : bOK p := of_decide_eq_true h1_4
    have hz : (bX p).nl = false := by rw [← bZ_y hb]; exact h2_4
    have hbz := bZ_y hb
    rw [show btT n p = tmX n (bZ p).rs from (if_pos ⟨hb, hz⟩).trans (by rw [hbz])]
    first
    | (rw [decide_eq_true (show bodyOK rdM n p from ⟨hb, .inr (by rw [← hbz]; exact of_decide_eq_true h4_6)⟩)]
       refine C9 [] (A0 (A3 rfl (by exact Q0) j2 kb rfl) (A0 rfl (A0 rfl A2))) ?_
       exact (SnapL.cons _ _ _ _ (SnapC.agg (.cons _ _ _ _ (.bool _) (.cons _ _ _ _ (.int _ _) (.cons _ _ _ _ (.int _ _) (.cons _ _ _ _ (.int _ _) (.cons _ _ _ _ (.int _ _) (.cons _ _ _ _ (.str _) (.cons _ _ _ _ (.sl true false _ (fun _ => .inl rfl)) .nil)))))))) (SnapL.cons _ _ _ _ (.one _ _ (.int _ _)) (SnapL.cons _ _ _ _ (.one _ _ (.bool _)) SnapL.nil))))
    | (rw [decide_eq_false (fun q : bodyOK rdM n p => q.2.elim (fun e => by rw [hz] at e; cases e) (fun e => (of_decide_eq_false h4_6) (by rw [hbz]; exact e)))]
       refine C9 [] (A0 (A3 rfl (by exact Q0) j2 kb rfl) (A0 rfl (A0 rfl A2))) ?_
       exact (SnapL.cons _ _ _ _ (SnapC.agg (.cons _ _ _ _ (.bool _) (.cons _ _ _ _ (.int _ _) (.cons _ _ _ _ (.int _ _) (.cons _ _ _ _ (.int _ _) (.cons _ _ _ _ (.int _ _) (.cons _ _ _ _ (.str _) (.cons _ _ _ _ (.sl true false _ (fun _ => .inl rfl)) .nil)))))))) (SnapL.cons _ _ _ _ (.one _ _ (.int _ _)) (SnapL.cons _ _ _ _ (.one _ _ (.bool _)) SnapL.nil))))
   ·(apply C3 (vs := [.bool _, .int _ _, .int _ _, .int _ _, .int _ _, .str _, _]) j2; exact Q0; exact Q2; rfl; exact kb; rfl)
    (apply est (u := .agg [.bool _, .int _ _, .int _ _, .int _ _, .int _ _, .str _, _]) j3; exact Q0; exact Q2; exact j4; exact kb; rfl)
    have hb : bOK p := of_decide_eq_true h1_4
    have hz : (bX p).nl = false := by rw [← bZ_y hb]; exact h2_4
    have hbz := bZ_y hb
    rw [show btT n p = tmX n (bZ p).rs from (if_pos ⟨hb, hz⟩).trans (by rw [hbz])]
    first
    | (rw [decide_eq_true (show bodyOK rdM n p from ⟨hb, .inr (by rw [← hbz]; exact of_decide_eq_true h4_6)⟩)]
       refine C9 [] (A0 (A3 rfl (by exact Q0) j2 kb rfl) (A0 rfl (A0 rfl A2))) ?_
       exact (SnapL.cons _ _ _ _ (SnapC.agg (.cons _ _ _ _ (.bool _) (.cons _ _ _ _ (.int _ _) (.cons _ _ _ _ (.int _ _) (.cons _ _ _ _ (.int _ _) (.cons _ _ _ _ (.int _ _) (.cons _ _ _ _ (.str _) (.cons _ _ _ _ (.sl true false _ (fun _ => .inl rfl)) .nil)))))))) (SnapL.cons _ _ _ _ (.one _ _ (.int _ _)) (SnapL.cons _ _ _ _ (.one _ _ (.bool _)) SnapL.nil))))
    | (rw [decide_eq_false (fun q : bodyOK rdM n p => q.2.elim (fun e => by rw [hz] at e; cases e) (fun e => (of_decide_eq_false h4_6) (by rw [hbz]; exact e)))]
       refine C9 [] (A0 (A3 rfl (by exact Q0) j2 kb rfl) (A0 rfl (A0 rfl A2))) ?_
       exact (SnapL.cons _ _ _ _ (SnapC.agg (.cons _ _ _ _ (.bool _) (.cons _ _ _ _ (.int _ _) (.cons _ _ _ _ (.int _ _) (.cons _ _ _ _ (.int _ _) (.cons _ _ _ _ (.int _ _) (.cons _ _ _ _ (.str _) (.cons _ _ _ _ (.sl true false _ (fun _ => .inl rfl)) .nil)))))))) (SnapL.cons _ _ _ _ (.one _ _ (.int _ _)) (SnapL.cons _ _ _ _ (.one _ _ (.bool _)) SnapL.nil))))
 ·(apply est (u := .agg [.bool _, .int _ _, .int _ _, .int _ _, .int _ _, .str _, _]) j3; exact Q0; exact Q2; exact j4; exact kb; rfl)
  (apply C3 (vs := [.bool _, .int _ _, .int _ _, .int _ _, .int _ _, .str _, _]) j2; exact Q0; exact Q2; rfl; exact kb; rfl)
  (apply est (u := .agg [.bool _, .int _ _, .int _ _, .int _ _, .int _ _, .str _, _]) j3; exact Q0; exact Q2; exact j4; exact kb; rfl)
  first
  | (have hb : ¬ bOK p := of_decide_eq_false h1_4
     rw [show btT n p = 0 from if_neg (fun q => hb q.1), decide_eq_false (fun q : bodyOK rdM n p => hb q.1)]
     refine C9 [] (A0 (A3 rfl (by exact Q0) j2 kb rfl) (A0 rfl (A0 rfl A2))) ?_
     exact (SnapL.cons _ _ _ _ (SnapC.agg (.cons _ _ _ _ (.bool _) (.cons _ _ _ _ (.int _ _) (.cons _ _ _ _ (.int _ _) (.cons _ _ _ _ (.int _ _) (.cons _ _ _ _ (.int _ _) (.cons _ _ _ _ (.str _) (.cons _ _ _ _ (.sl true false _ (fun _ => .inl rfl)) .nil)))))))) (SnapL.cons _ _ _ _ (.one _ _ (.int _ _)) (SnapL.cons _ _ _ _ (.one _ _ (.bool _)) SnapL.nil))))
  | (have hb : bOK p := of_decide_eq_true h1_4
     have hz : (bX p).nl = true := by rw [← bZ_y hb]; exact h2_4
     rw [show btT n p = 0 from if_neg (fun q => by have := q.2; rw [hz] at this; cases this), decide_eq_true (show bodyOK rdM n p from ⟨hb, .inl hz⟩)]
     refine C9 [] (A0 (A3 rfl (by exact Q0) j2 kb rfl) (A0 rfl (A0 rfl A2))) ?_
     exact (SnapL.cons _ _ _ _ (SnapC.agg (.cons _ _ _ _ (.bool _) (.cons _ _ _ _ (.int _ _) (.cons _ _ _ _ (.int _ _) (.cons _ _ _ _ (.int _ _) (.cons _ _ _ _ (.int _ _) (.cons _ _ _ _ (.str _) (.cons _ _ _ _ (.sl true false _ (fun _ => .inl rfl)) .nil)))))))) (SnapL.cons _ _ _ _ (.one _ _ (.int _ _)) (SnapL.cons _ _ _ _ (.one _ _ (.bool _)) SnapL.nil))))
theorem s86 (n : Int) (hn : nodes n) (p : ByteArray) : Pure En 86 [.one (.int .i64 n), .one (.str p)] [.one (.bool (decide (bodyOK rdM n p)))] := by
 refine Pure.of_ev (st := []) Tryz.func86 rfl kb ?_
 refine C1 (s161 n hn p) rfl rfl rfl ?_
 refine brB ?_ ?_ <;> intro h1_6
 ·(apply est (u := .agg [.bool _, .int _ _, .int _ _, .int _ _, .int _ _, .str _, _]) j3; exact Q0; rfl; exact j4; exact kb; rfl)
  first | (refine B7 rfl ?_; exact of_decide_eq_true h1_6) | (refine A7 rfl ?_; exact of_decide_eq_false h1_6)
 ·(apply est (u := .agg [.bool _, .int _ _, .int _ _, .int _ _, .int _ _, .str _, _]) j3; exact Q0; rfl; exact j4; exact kb; rfl)
  first | (refine B7 rfl ?_; exact of_decide_eq_true h1_6) | (refine A7 rfl ?_; exact of_decide_eq_false h1_6)
theorem s83 (n : Int) (c : Ct) (b : Bool) : Pure En 83 [.one (.int .i64 n), .agg (c.T b)] [.one (.bool (decide (nodes n ∧ ctOK mk bare rdM dgB n c)))] := by
 have hl : (c.ps.map Msg.T).length = c.ps.length := List.length_map ..
 refine Pure.of_ev (st := []) Tryz.func83 rfl kb ?_
 refine B0 (p22 n) rfl j2 ?_ ?_ <;> intro h1_1
 ·refine A1 ?_ (by exact Q0) (by exact Q2)
  refine br ?_ ?_ <;> intro h1_7
  ·refine A7 rfl ?_
   rintro ⟨q1, q2, q3, q4, _⟩
   first
   | exact h1_1 q1
   | omega
   | exact h1_13 q4
  ·refine A1 ?_ (by exact Q0) (by exact Q2)
   refine B0 (s86 n h1_1 c.bd) rfl j2 ?_ ?_ <;> intro h1_13
   ·refine A1 ?_ (by exact Q0) (by exact Q2)
    refine C1 (s140 n h1_1) rfl rfl rfl ?_
    refine br ?_ ?_ <;> intro h1_22
    ·refine A7 rfl ?_
     rintro ⟨q1, q2, q3, q4, _⟩
     first
     | exact h1_1 q1
     | omega
     | exact h1_13 q4
    ·have hq := P3 h1_1
     refine A1 ?_ (by exact Q0) (by exact Q2)
     refine C1 (s159 c.bd (by omega)) rfl rfl rfl ?_
     refine A1 ?_ (by exact Q0) (by exact Q2)
     (refine B9 (C5 (by first | rfl | assumption | (exact B2 Msg.T Msg0 (k := 0) (by omega))) rfl ?_))
     (apply est (u := .str _) j3; exact Q0; exact Q2; exact j4; exact kb; rfl)
     (apply est (u := .agg [.int _ _, .int _ _, .int _ _, .int _ _, .str _, .str _, .str _]) j3; exact Q0; exact Q2; exact j4; exact kb; rfl)
     refine clr 11 [3, 3, 3, 3, 0, 0, 1, 0, 0, 1, 0] [(1, 7), (4, 7), (1, 8), (4, 8), (7, 8), (4, 9)] j2 (by decide +kernel) ?_ ?_
     ·first | (simp [ClearL, ids]; done) | (simp [ClearL, ids]; omega) | (simp [ClearL, ids, srcIds, Env.eval, put, upd, retV, A.toV, T.toV]; try omega)
     refine A1 ?_ (by exact Q0) (by exact Q2)
     refine A1 ?_ (by exact Q0) (by exact Q2)
     refine A1 ?_ (by exact Q0) (by exact Q2)
     refine B0 (s158 n 2 c.vw c.sq c.ps b (by have := P3 h1_1; omega)) rfl j2 ?_ ?_ <;> intro h4_7
     ·refine A1 ?_ (by exact Q0) (by exact Q2)
      refine N2 (o98 false b c.ps (dgB c.bd) (by have := P3 h1_1; omega) ?_ ?_) rfl j2 ?_ ?_
      ·exact G4
      ·exact G4
      all_goals intro h4_12
      ·first
       | (refine B7 rfl ?_; exact ⟨h1_1, by omega, by omega, h1_13, (ct_iff h1_1).1 ⟨h4_7, of_decide_eq_false h4_12⟩⟩)
       | (refine A7 rfl ?_; rintro ⟨q1, q2, q3, q4, q5⟩; have q6 := (ct_iff h1_1).2 q5; first | exact h4_7 q6.1 | exact q6.2 (of_decide_eq_true h4_12))
      ·first
       | (refine B7 rfl ?_; exact ⟨h1_1, by omega, by omega, h1_13, (ct_iff h1_1).1 ⟨h4_7, of_decide_eq_false h4_12⟩⟩)
       | (refine A7 rfl ?_; rintro ⟨q1, q2, q3, q4, q5⟩; have q6 := (ct_iff h1_1).2 q5; first | exact h4_7 q6.1 | exact q6.2 (of_decide_eq_true h4_12))
     ·first
      | (refine B7 rfl ?_; exact ⟨h1_1, by omega, by omega, h1_13, (ct_iff h1_1).1 ⟨h4_7, of_decide_eq_false h4_12⟩⟩)
      | (refine A7 rfl ?_; rintro ⟨q1, q2, q3, q4, q5⟩; have q6 := (ct_iff h1_1).2 q5; first | exact h4_7 q6.1 | exact q6.2 (of_decide_eq_true h4_12))
   ·refine A7 rfl ?_
    rintro ⟨q1, q2, q3, q4, _⟩
    first
    | exact h1_1 q1
    | omega
    | exact h1_13 q4
 ·refine A7 rfl ?_
  rintro ⟨q1, q2, q3, q4, _⟩
  first
  | exact h1_1 q1
  | omega
  | exact h1_13 q4
open Go.V
set_option linter.unusedVariables false
set_option linter.unusedSimpArgs false
set_option maxRecDepth 20000
set_option maxHeartbeats 4000000
def Ct.V (c : Ct) : List V := [.str c.bd, .sl true false (c.ps.map Msg.T)]
theorem rowsC (L : List Ct) : rowsV (L.map (Ct.T false)) = L.map Ct.V := by unfold rowsV; rw [List.map_map]; rfl
theorem U2 {n : Int} {c : Ct} (h : nodes n ∧ ctOK mk bare rdM dgB n c) : 0 < c.ps.length := by
 have := P3 h.1
 have := h.2.1
 omega
theorem S7 {s : ByteArray} (h : (ctC s).isSome = true) : ctC s = some (ctX s) := by
 unfold ctX
 match e : ctC s with
 | some c => rfl
 | none => rw [e] at h; cases h
noncomputable def vcL (l : List ByteArray) : Nat → List Ct
 | 0 => []
 | i + 1 => vcL l i ++ [ctX (l.getD i ⟨#[]⟩)]
theorem vcL_len (l : List ByteArray) : ∀ i, (vcL l i).length = i
 | 0 => rfl
 | i + 1 => by show (vcL l i ++ [_]).length = _; rw [List.length_append, vcL_len l i]; rfl
theorem getVm {α : Type} (f : α → List V) (d : α) {L : List α} {i : Nat} (hi : 0 < i) (h : i ≤ L.length) : (L.map f)[0 + ((i : Int) - 1).toNat]? = some (f (L.getD (i - 1) d)) := by
 rw [show ((i : Int) - 1).toNat = i - 1 by omega, Nat.zero_add]; simp [show i - 1 < L.length by omega]
abbrev VC (n vw : Int) (l : List ByteArray) (i : Nat) (out : List Ct) : Prop := Vc mk bare rdM dgB n vw l i out
theorem VC.pos {n vw : Int} {l : List ByteArray} {i : Nat} {out : List Ct} (hn : nodes n) (h : VC n vw l i out) : ∀ j, j < i → 0 < (out.getD j Ct0).ps.length := by
 induction h with
 | nil => intro j hj; omega
 | more i out c h hi hc ih =>
  intro j hj
  have hl := h.len
  by_cases e : j < i
  ·have := ih j e
   rwa [show (out ++ [c]).getD j Ct0 = out.getD j Ct0 by simp [List.getElem?_append_left (show j < out.length by omega)]]
  ·rw [show (out ++ [c]).getD j Ct0 = c by simp [show j = out.length by omega]]
   exact U2 ⟨hn, hc.2.1⟩
def okV (n : Int) (m : Msg) : Prop := nodes n ∧ ∃ out, vcM mk bare rdM dgB n m out
noncomputable instance dcOv (n : Int) (m : Msg) : Decidable (okV n m) := Classical.propDecidable _
noncomputable def vcO (n : Int) (m : Msg) : List Ct := if okV n m then vcL (lsO m.bd) (lsO m.bd).length else []
theorem J2 {n : Int} {m : Msg} {i : Nat} (hls : lsC m.bd = some (lsO m.bd)) (hV : VC n m.vw (lsO m.bd) i (vcL (lsO m.bd) i)) (hi : i < (lsO m.bd).length)
  (h : ∀ c, ¬ vcT mk bare rdM dgB n m.vw (vcL (lsO m.bd) i) ((lsO m.bd).getD i ⟨#[]⟩) c) : ¬ okV n m := by
 rintro ⟨_, out, _, _, _, l, e, _, hv⟩
 obtain rfl : lsO m.bd = l := Option.some.inj (hls.symm.trans e)
 exact hV.stop hi h hi hv
theorem okV_yes {n : Int} {m : Msg} (h1 : m.kd = 4) (h2 : 1 ≤ m.vw) (h3 : nodes n ∧ sgd mk bare n m) (hls : lsC m.bd = some (lsO m.bd)) (h8 : (lsO m.bd).length ≤ 8) {i : Nat} (hi : i = (lsO m.bd).length) (hV : VC n m.vw (lsO m.bd) i (vcL (lsO m.bd) i)) : okV n m ∧ vcO n m = vcL (lsO m.bd) i := by
 subst hi
 have h : okV n m := ⟨h3.1, _, h1, h2, h3.2, _, hls, h8, hV⟩
 exact ⟨h, if_pos h⟩
theorem okV_is {n : Int} {m : Msg} {out : List Ct} (hn : nodes n) (h : vcM mk bare rdM dgB n m out) : okV n m ∧ vcO n m = out := by
 have hk : okV n m := ⟨hn, out, h⟩
 refine ⟨hk, ?_⟩
 rw [show vcO n m = _ from if_pos hk]
 obtain ⟨_, _, _, l, e, _, hv⟩ := h
 have el : lsO m.bd = l := by unfold lsO; rw [e]
 rw [el]
 have key : ∀ {i : Nat} {o : List Ct}, VC n m.vw l i o → o = vcL l i := fun {i} {o} h => by
  induction h with
  | nil => rfl
  | more i out c h hi hc ih =>
   show _ = vcL l i ++ [_]
   rw [← ih]
   congr 2
   unfold ctX; rw [hc.1]
 exact (key hv).symm
structure WS where
 i : Nat
 o : V
 b : Nat
 m : Nat
 g : Heap
structure WI (n : Int) (m : Msg) (l : List ByteArray) (a : WS) : Prop where
 il : a.i ≤ l.length
 g0 : a.g 0 = some ⟨[m.V], 7, 37⟩
 out : LsOK Ct.V 2 44 1 (vcL l a.i) a.o a.b a.m a.g
 mm : 1 ≤ a.m
 vc : VC n m.vw l a.i (vcL l a.i)
theorem s70 (n : Int) (m : Msg) : Pure En 70 [.one (.int .i64 n), .agg m.T] [.one (.sl false ((vcO n m).map (Ct.T false))), .one (.bool (decide (okV n m)))] := by
 refine Pure.of_ev (st := [14]) Tryz.func70 rfl kb ?_
 refine A1 ?_ (by exact Q0) (by exact O7)
 refine br ?_ ?_ <;> intro h1_2
 ·have hno : ¬ okV n m := by
   rintro ⟨q0, out, q1, q2, q3, _⟩
   first
   | omega
   | exact h1_11 ⟨q0, q3⟩
  rw [show vcO n m = [] from if_neg hno, decide_eq_false hno]
  exact C9 [] (A0 rfl (A0 rfl A2)) (SnapL.cons _ _ _ _ (.one _ _ .nslW) (SnapL.cons _ _ _ _ (.one _ _ (.bool _)) SnapL.nil))
 ·refine A1 ?_ (by exact Q0) (by exact O7)
  refine br ?_ ?_ <;> intro h1_6
  ·have hno : ¬ okV n m := by
    rintro ⟨q0, out, q1, q2, q3, _⟩
    first
    | omega
    | exact h1_11 ⟨q0, q3⟩
   rw [show vcO n m = [] from if_neg hno, decide_eq_false hno]
   exact C9 [] (A0 rfl (A0 rfl A2)) (SnapL.cons _ _ _ _ (.one _ _ .nslW) (SnapL.cons _ _ _ _ (.one _ _ (.bool _)) SnapL.nil))
  ·(apply C3 (vs := [.int _ _, .int _ _, .int _ _, .int _ _, .str _, .str _, .str _]) j2; exact Q0; exact O7; rfl; exact kb; rfl)
   refine B0 (s55 n m) rfl j2 ?_ ?_ <;> intro h1_11
   ·refine A1 ?_ (by exact Q0) (by exact O7)
    refine C1 (s147 m.bd) rfl rfl rfl ?_
    refine brB ?_ ?_ <;> intro h3_5
    ·refine br ?_ ?_ <;> intro h4_5
     ·have hno : ¬ okV n m := by
       rintro ⟨_, out, _, _, _, l, e, h8, _⟩
       have el : lsO m.bd = l := by unfold lsO; rw [e]
       first
       | (rw [← el] at h8; rw [List.length_map] at h4_5; omega)
       | (rw [e] at h3_5; cases h3_5)
      rw [show vcO n m = [] from if_neg hno, decide_eq_false hno]
      exact C9 [] (A0 rfl (A0 rfl A2)) (SnapL.cons _ _ _ _ (.one _ _ .nslW) (SnapL.cons _ _ _ _ (.one _ _ (.bool _)) SnapL.nil))
     ·have hls := J8 h3_5
      have hn := h1_11.1
      have hl : ((lsO m.bd).map tT).length = (lsO m.bd).length := List.length_map ..
      refine wlG fun g0 hg0 => ?_
      refine B3 (fun (a : WS) => [.int .i64 n, .unk, .unk, .ptr 0 0 0, .unk, .unk, .unk, .unk, a.o, .unk, .unk, .unk, .unk, .unk, .unk, .unk, .unk, .unk, .unk, .unk, .unk, .unk, .unk, .unk, .unk, .unk, .unk, .unk, .unk, .unk, .unk, .unk, .unk, .unk, .unk, .unk, .unk, .unk, .unk, .unk, .sl true false ((lsO m.bd).map tT), .int .i64 ((lsO m.bd).map tT).length, .int .i64 a.i]) (fun (a : WS) => a.g) (fun (a : WS) => a.m) (fun (a : WS) => WI n m (lsO m.bd) a) (fun (a : WS) => (lsO m.bd).length - a.i) ⟨0, .nsl, 0, 1, g0⟩ ?_ ?_ ?_ ?_ ?_
      ·refine ⟨Nat.zero_le _, ?_, .inl ⟨rfl, rfl⟩, by dsimp only; omega, .nil⟩
       dsimp only; rw [hg0]; exact Q0
      ·(repeat first | exact LE.nil _ | refine LE.unk _ _ ?_ | refine LE.eq _ _ _ rfl ?_)
      ·exact LessH.refl _
      ·exact Nat.le_refl _
      intro ⟨i, o, b, mm, g⟩ hI ih
      have q0 := hI.il
      have hg0 := hI.g0
      have q4 := hI.mm
      unfold Msg.V at hg0
      dsimp only at q0 hg0 q4 ⊢
      have hrl := vcL_len (lsO m.bd) i
      rcases hI.out with ⟨e0, e1⟩ | ⟨e1, hbO2, hbO⟩
      all_goals dsimp only at e1
      ·skip
       obtain rfl : i = 0 := by rw [e0] at hrl; exact hrl.symm
       subst e1
       refine A6 (st := [14]) ?_
       refine br ?_ ?_ <;> intro h8_0
       ·(refine B9 (C5 (by first | rfl | assumption | (exact B2 tT ⟨#[]⟩ (k := 0) (by omega))) rfl ?_))
        refine C1 (s148 ((lsO m.bd).getD 0 ⟨#[]⟩)) rfl rfl rfl ?_
        refine brB ?_ ?_ <;> intro h10_4
        ·(apply est (u := .agg [.str _, _]) j3; exact Q0; exact O7; exact j4; exact kb; rfl)
         (apply C3 (vs := [.str _, _]) j2; exact Q0; exact O7; rfl; exact kb; rfl)
         refine B0 (s83 n (ctX ((lsO m.bd).getD 0 ⟨#[]⟩)) false) rfl j2 ?_ ?_ <;> intro h11_5
         ·(apply C3 (vs := [.str _, _]) j2; exact Q0; exact O7; rfl; exact kb; rfl)
          refine C1 (s85 (ctX ((lsO m.bd).getD 0 ⟨#[]⟩)) false (U2 h11_5)) rfl rfl rfl ?_
          refine A1 ?_ (by exact Q0) (by exact O7)
          refine br ?_ ?_ <;> intro h11_13
          ·have hno : ¬ okV n m := J2 hls hI.vc (i := 0) (by omega) (by
            rintro c ⟨e1, e2, e3, e4⟩
            have ec : ctX ((lsO m.bd).getD 0 ⟨#[]⟩) = c := by unfold ctX; rw [e1]
            first
            | (rw [e1] at h10_4; cases h10_4; done)
            | exact h11_5 (by rw [ec]; exact ⟨hn, e2⟩)
            | (rw [ec] at h11_13; omega)
            | (have q := e4 (fun e => by rw [e] at hrl; simp at hrl; omega); (try dsimp only at q); rw [hrl] at q; rw [ec] at h11_27; omega))
           rw [show vcO n m = [] from if_neg hno, decide_eq_false hno]
           exact C9 [] (A0 rfl (A0 rfl A2)) (SnapL.cons _ _ _ _ (.one _ _ .nslW) (SnapL.cons _ _ _ _ (.one _ _ (.bool _)) SnapL.nil))
          ·refine br (fun h => absurd h ((by omega))) ?_
           intro h11_17
           (apply C3 (vs := [.str _, _]) j2; exact Q0; exact O7; rfl; exact kb; rfl)
           refine F7 (es := [[.str _, _]]) j4 kz kb rfl rfl ?_
           (apply ean (s' := 40) (es := [[.str _, _]]) rfl j3 kz; exact L7; exact Q3; exact Q6; exact Q6; exact Q6)
           refine O4 fun G hG => ?_
           refine C0 ?_
           have hvc : vcT mk bare rdM dgB n m.vw (vcL (lsO m.bd) 0) ((lsO m.bd).getD 0 ⟨#[]⟩) (ctX ((lsO m.bd).getD 0 ⟨#[]⟩)) := ⟨S7 h10_4, h11_5.2, by omega, fun hne => by rw [hrl]; have hp : 0 < 0 := Nat.pos_of_ne_zero (fun e => hne (by rw [← List.length_eq_zero_iff, hrl, e])); omega⟩
           refine C6 (ih ⟨0 + 1, .view (mm + 1 + 1) 0 1, mm + 1 + 1, mm + 1 + 1 + 1, G⟩ ⟨by dsimp only; omega, ?_, .inr ⟨?_, ?_, by dsimp only; omega, by dsimp only; omega⟩, by dsimp only; omega, Vc.more 0 _ _ hI.vc (by omega) hvc⟩ (by dsimp only; omega)) (by (repeat first | exact LE.nil _ | refine LE.unk _ _ ?_ | refine LE.eq _ _ _ rfl ?_)) (LessH.refl _) (Nat.le_refl _)
           ·dsimp only; rw [hG]; exact Q0
           ·show V.view _ 0 _ = V.view _ 0 (vcL (lsO m.bd) 0 ++ [_]).length; rw [List.length_append]; rfl
           ·dsimp only; rw [hG]; show _ = some (Blk.mk ((vcL (lsO m.bd) 0 ++ [_]).map Ct.V) 2 44); rw [List.map_append]; exact Q0
         ·have hno : ¬ okV n m := J2 hls hI.vc (i := 0) (by omega) (by
           rintro c ⟨e1, e2, e3, e4⟩
           have ec : ctX ((lsO m.bd).getD 0 ⟨#[]⟩) = c := by unfold ctX; rw [e1]
           first
           | (rw [e1] at h10_4; cases h10_4; done)
           | exact h11_5 (by rw [ec]; exact ⟨hn, e2⟩)
           | (rw [ec] at h11_13; omega)
           | (have q := e4 (fun e => by rw [e] at hrl; simp at hrl; omega); (try dsimp only at q); rw [hrl] at q; rw [ec] at h11_27; omega))
          rw [show vcO n m = [] from if_neg hno, decide_eq_false hno]
          exact C9 [] (A0 rfl (A0 rfl A2)) (SnapL.cons _ _ _ _ (.one _ _ .nslW) (SnapL.cons _ _ _ _ (.one _ _ (.bool _)) SnapL.nil))
        ·(apply est (u := .agg [.str _, _]) j3; exact Q0; exact O7; exact j4; exact kb; rfl)
         have hno : ¬ okV n m := J2 hls hI.vc (i := 0) (by omega) (by
          rintro c ⟨e1, e2, e3, e4⟩
          have ec : ctX ((lsO m.bd).getD 0 ⟨#[]⟩) = c := by unfold ctX; rw [e1]
          first
          | (rw [e1] at h10_4; cases h10_4; done)
          | exact h11_5 (by rw [ec]; exact ⟨hn, e2⟩)
          | (rw [ec] at h11_13; omega)
          | (have q := e4 (fun e => by rw [e] at hrl; simp at hrl; omega); (try dsimp only at q); rw [hrl] at q; rw [ec] at h11_27; omega))
         rw [show vcO n m = [] from if_neg hno, decide_eq_false hno]
         exact C9 [] (A0 rfl (A0 rfl A2)) (SnapL.cons _ _ _ _ (.one _ _ .nslW) (SnapL.cons _ _ _ _ (.one _ _ (.bool _)) SnapL.nil))
       ·obtain ⟨hyes, he⟩ := okV_yes (by omega) (by omega) h1_11 hls (by omega) (i := 0) (by omega) hI.vc
        rw [he, decide_eq_true hyes]
        exact C9 [] (A0 rfl (A0 rfl A2)) (SnapL.cons _ _ _ _ (.one _ _ .nslW) (SnapL.cons _ _ _ _ (.one _ _ (.bool _)) SnapL.nil))
      ·skip
       dsimp only at hbO2 hbO
       subst e1
       refine A6 (st := [14]) ?_
       refine br ?_ ?_ <;> intro h8_0
       ·(refine B9 (C5 (by first | rfl | assumption | (exact B2 tT ⟨#[]⟩ (k := i) (by omega))) rfl ?_))
        refine C1 (s148 ((lsO m.bd).getD i ⟨#[]⟩)) rfl rfl rfl ?_
        refine brB ?_ ?_ <;> intro h10_4
        ·(apply est (u := .agg [.str _, _]) j3; exact Q0; exact O7; exact j4; exact kb; rfl)
         (apply C3 (vs := [.str _, _]) j2; exact Q0; exact O7; rfl; exact kb; rfl)
         refine B0 (s83 n (ctX ((lsO m.bd).getD i ⟨#[]⟩)) false) rfl j2 ?_ ?_ <;> intro h11_5
         ·(apply C3 (vs := [.str _, _]) j2; exact Q0; exact O7; rfl; exact kb; rfl)
          refine C1 (s85 (ctX ((lsO m.bd).getD i ⟨#[]⟩)) false (U2 h11_5)) rfl rfl rfl ?_
          refine A1 ?_ (by exact Q0) (by exact O7)
          refine br ?_ ?_ <;> intro h11_13
          ·have hno : ¬ okV n m := J2 hls hI.vc (i := i) (by omega) (by
            rintro c ⟨e1, e2, e3, e4⟩
            have ec : ctX ((lsO m.bd).getD i ⟨#[]⟩) = c := by unfold ctX; rw [e1]
            first
            | (rw [e1] at h10_4; cases h10_4; done)
            | exact h11_5 (by rw [ec]; exact ⟨hn, e2⟩)
            | (rw [ec] at h11_13; omega)
            | (have q := e4 (fun e => by rw [e] at hrl; simp at hrl; omega); (try dsimp only at q); rw [hrl] at q; rw [ec] at h11_27; omega))
           rw [show vcO n m = [] from if_neg hno, decide_eq_false hno]
           exact C9 [] (A0 rfl (A0 rfl A2)) (SnapL.cons _ _ _ _ (.one _ _ .nslW) (SnapL.cons _ _ _ _ (.one _ _ (.bool _)) SnapL.nil))
          ·refine br ?_ ?_ <;> intro h11_17
           ·refine C0 ?_
            (refine H1 (by exact Q0) ⟨rfl, B9 ?_⟩)
            (apply C3 (vs := [.str _, _]) j2; exact Q0; exact O7; rfl; exact kb; rfl)
            refine C1 (s84 ((vcL (lsO m.bd) i).getD (i - 1) Ct0) false (VC.pos hn hI.vc _ (by first | omega | (dsimp only; omega)))) rfl rfl rfl ?_
            (apply C3 (vs := [.str _, _]) j2; exact Q0; exact O7; rfl; exact kb; rfl)
            refine C1 (s84 (ctX ((lsO m.bd).getD i ⟨#[]⟩)) false (U2 h11_5)) rfl rfl rfl ?_
            refine br ?_ ?_ <;> intro h11_27
            ·have hno : ¬ okV n m := J2 hls hI.vc (i := i) (by omega) (by
              rintro c ⟨e1, e2, e3, e4⟩
              have ec : ctX ((lsO m.bd).getD i ⟨#[]⟩) = c := by unfold ctX; rw [e1]
              first
              | (rw [e1] at h10_4; cases h10_4; done)
              | exact h11_5 (by rw [ec]; exact ⟨hn, e2⟩)
              | (rw [ec] at h11_13; omega)
              | (have q := e4 (fun e => by rw [e] at hrl; simp at hrl; omega); (try dsimp only at q); rw [hrl] at q; rw [ec] at h11_27; omega))
             rw [show vcO n m = [] from if_neg hno, decide_eq_false hno]
             exact C9 [] (A0 rfl (A0 rfl A2)) (SnapL.cons _ _ _ _ (.one _ _ .nslW) (SnapL.cons _ _ _ _ (.one _ _ (.bool _)) SnapL.nil))
            ·(apply C3 (vs := [.str _, _]) j2; exact Q0; exact O7; rfl; exact kb; rfl)
             refine F7 (es := [[.str _, _]]) j4 kz kb rfl rfl ?_
             (apply eap (s' := 40) (es := [[.str _, _]]) rfl rfl; exact Q0; exact j2; exact Q29; exact j2; exact kz; exact L7; exact Q3; exact Q6; exact Q6)
             refine O4 fun G hG => ?_
             refine C0 ?_
             have hvc : vcT mk bare rdM dgB n m.vw (vcL (lsO m.bd) i) ((lsO m.bd).getD i ⟨#[]⟩) (ctX ((lsO m.bd).getD i ⟨#[]⟩)) := ⟨S7 h10_4, h11_5.2, by omega, fun hne => by rw [hrl]; have hp : 0 < i := Nat.pos_of_ne_zero (fun e => hne (by rw [← List.length_eq_zero_iff, hrl, e])); omega⟩
             refine C6 (ih ⟨i + 1, .view (mm + 1 + 1) 0 ((vcL (lsO m.bd) i).length + 1), mm + 1 + 1, mm + 1 + 1 + 1, G⟩ ⟨by dsimp only; omega, ?_, .inr ⟨?_, ?_, by dsimp only; omega, by dsimp only; omega⟩, by dsimp only; omega, Vc.more i _ _ hI.vc (by omega) hvc⟩ (by dsimp only; omega)) (by (repeat first | exact LE.nil _ | refine LE.unk _ _ ?_ | refine LE.eq _ _ _ rfl ?_)) (LessH.refl _) (Nat.le_refl _)
             ·dsimp only; rw [hG]; exact Q0
             ·show V.view _ 0 _ = V.view _ 0 (vcL (lsO m.bd) i ++ [_]).length; rw [List.length_append]; rfl
             ·dsimp only; rw [hG]; show _ = some (Blk.mk ((vcL (lsO m.bd) i ++ [_]).map Ct.V) 2 44); rw [List.map_append]; exact Q0
           ·(apply C3 (vs := [.str _, _]) j2; exact Q0; exact O7; rfl; exact kb; rfl)
            refine F7 (es := [[.str _, _]]) j4 kz kb rfl rfl ?_
            (apply eap (s' := 40) (es := [[.str _, _]]) rfl rfl; exact Q0; exact j2; exact Q29; exact j2; exact kz; exact L7; exact Q3; exact Q6; exact Q6)
            refine O4 fun G hG => ?_
            refine C0 ?_
            have hvc : vcT mk bare rdM dgB n m.vw (vcL (lsO m.bd) i) ((lsO m.bd).getD i ⟨#[]⟩) (ctX ((lsO m.bd).getD i ⟨#[]⟩)) := ⟨S7 h10_4, h11_5.2, by omega, fun hne => by rw [hrl]; have hp : 0 < i := Nat.pos_of_ne_zero (fun e => hne (by rw [← List.length_eq_zero_iff, hrl, e])); omega⟩
            refine C6 (ih ⟨i + 1, .view (mm + 1 + 1) 0 ((vcL (lsO m.bd) i).length + 1), mm + 1 + 1, mm + 1 + 1 + 1, G⟩ ⟨by dsimp only; omega, ?_, .inr ⟨?_, ?_, by dsimp only; omega, by dsimp only; omega⟩, by dsimp only; omega, Vc.more i _ _ hI.vc (by omega) hvc⟩ (by dsimp only; omega)) (by (repeat first | exact LE.nil _ | refine LE.unk _ _ ?_ | refine LE.eq _ _ _ rfl ?_)) (LessH.refl _) (Nat.le_refl _)
            ·dsimp only; rw [hG]; exact Q0
            ·show V.view _ 0 _ = V.view _ 0 (vcL (lsO m.bd) i ++ [_]).length; rw [List.length_append]; rfl
            ·dsimp only; rw [hG]; show _ = some (Blk.mk ((vcL (lsO m.bd) i ++ [_]).map Ct.V) 2 44); rw [List.map_append]; exact Q0
         ·have hno : ¬ okV n m := J2 hls hI.vc (i := i) (by omega) (by
           rintro c ⟨e1, e2, e3, e4⟩
           have ec : ctX ((lsO m.bd).getD i ⟨#[]⟩) = c := by unfold ctX; rw [e1]
           first
           | (rw [e1] at h10_4; cases h10_4; done)
           | exact h11_5 (by rw [ec]; exact ⟨hn, e2⟩)
           | (rw [ec] at h11_13; omega)
           | (have q := e4 (fun e => by rw [e] at hrl; simp at hrl; omega); (try dsimp only at q); rw [hrl] at q; rw [ec] at h11_27; omega))
          rw [show vcO n m = [] from if_neg hno, decide_eq_false hno]
          exact C9 [] (A0 rfl (A0 rfl A2)) (SnapL.cons _ _ _ _ (.one _ _ .nslW) (SnapL.cons _ _ _ _ (.one _ _ (.bool _)) SnapL.nil))
        ·(apply est (u := .agg [.str _, _]) j3; exact Q0; exact O7; exact j4; exact kb; rfl)
         have hno : ¬ okV n m := J2 hls hI.vc (i := i) (by omega) (by
          rintro c ⟨e1, e2, e3, e4⟩
          have ec : ctX ((lsO m.bd).getD i ⟨#[]⟩) = c := by unfold ctX; rw [e1]
          first
          | (rw [e1] at h10_4; cases h10_4; done)
          | exact h11_5 (by rw [ec]; exact ⟨hn, e2⟩)
          | (rw [ec] at h11_13; omega)
          | (have q := e4 (fun e => by rw [e] at hrl; simp at hrl; omega); (try dsimp only at q); rw [hrl] at q; rw [ec] at h11_27; omega))
         rw [show vcO n m = [] from if_neg hno, decide_eq_false hno]
         exact C9 [] (A0 rfl (A0 rfl A2)) (SnapL.cons _ _ _ _ (.one _ _ .nslW) (SnapL.cons _ _ _ _ (.one _ _ (.bool _)) SnapL.nil))
       ·obtain ⟨hyes, he⟩ := okV_yes (by omega) (by omega) h1_11 hls (by omega) (i := i) (by omega) hI.vc
        rw [he, decide_eq_true hyes]
        exact C9 [b] (A0 rfl (A0 rfl A2)) (SnapL.cons _ _ _ _ (.one _ _ (.weak _ _ (B5 (b := ⟨(vcL (lsO m.bd) i).map Ct.V, 2, 44⟩) ((vcL (lsO m.bd) i).map (Ct.T false)) (List.mem_singleton.2 rfl) (by exact Q0) (rowsC _).symm (List.length_map ..).symm))) (SnapL.cons _ _ _ _ (.one _ _ (.bool _)) SnapL.nil))
    ·have hno : ¬ okV n m := by
      rintro ⟨_, out, _, _, _, l, e, h8, _⟩
      have el : lsO m.bd = l := by unfold lsO; rw [e]
      first
      | (rw [← el] at h8; rw [List.length_map] at h4_5; omega)
      | (rw [e] at h3_5; cases h3_5)
     rw [show vcO n m = [] from if_neg hno, decide_eq_false hno]
     exact C9 [] (A0 rfl (A0 rfl A2)) (SnapL.cons _ _ _ _ (.one _ _ .nslW) (SnapL.cons _ _ _ _ (.one _ _ (.bool _)) SnapL.nil))
   ·have hno : ¬ okV n m := by
     rintro ⟨q0, out, q1, q2, q3, _⟩
     first
     | omega
     | exact h1_11 ⟨q0, q3⟩
    rw [show vcO n m = [] from if_neg hno, decide_eq_false hno]
    exact C9 [] (A0 rfl (A0 rfl A2)) (SnapL.cons _ _ _ _ (.one _ _ .nslW) (SnapL.cons _ _ _ _ (.one _ _ (.bool _)) SnapL.nil))
open Go.V
set_option linter.unusedVariables false
set_option linter.unusedSimpArgs false
set_option maxRecDepth 20000
set_option maxHeartbeats 4000000
def cG (c : Ct) : Prop := 0 < c.ps.length ∧ 1 ≤ c.sq ∧ c.sq ≤ 8
theorem ct_good {n : Int} {c : Ct} (h : nodes n ∧ ctOK mk bare rdM dgB n c) : cG c := by
 have hp := U2 h
 obtain ⟨e1, e2, _⟩ := h.2.2.2.2 0 hp
 have e3 := e2.1.2.2.2.2.2
 rw [if_pos (by omega)] at e3
 exact ⟨hp, e3.1.1, e3.1.2⟩
theorem VC.good {n vw : Int} {l : List ByteArray} {i : Nat} {out : List Ct} (hn : nodes n) (h : VC n vw l i out) : ∀ j, j < i → cG (out.getD j Ct0) := by
 induction h with
 | nil => intro j hj; omega
 | more i out c h hi hc ih =>
  intro j hj
  have hl := h.len
  by_cases e : j < i
  ·have := ih j e
   rwa [show (out ++ [c]).getD j Ct0 = out.getD j Ct0 by simp [List.getElem?_append_left (show j < out.length by omega)]]
  ·rw [show (out ++ [c]).getD j Ct0 = c by simp [show j = out.length by omega]]
   exact ct_good ⟨hn, hc.2.1⟩
theorem vcO_good (n : Int) (m : Msg) : ∀ j, j < (vcO n m).length → cG ((vcO n m).getD j Ct0) := by
 intro j hj
 by_cases h : okV n m
 ·obtain ⟨hn, out, ho⟩ := h
  have e := (okV_is hn ho).2
  rw [e] at hj ⊢
  obtain ⟨_, _, _, l, _, _, hv⟩ := ho
  exact VC.good hn hv j (by have := hv.len; omega)
 ·rw [show vcO n m = [] from if_neg h] at hj; simp at hj
def rnS (s : Pl) (cs : List Ct) : Nat → Pl
 | 0 => s
 | k + 1 => (rnS s cs k).step (cs.getD k Ct0)
noncomputable def plS (n : Int) (L : List Msg) : Nat → Pl
 | 0 => Pl0
 | i + 1 => rnS (plS n L i) (vcO n (L.getD i Msg0)) (vcO n (L.getD i Msg0)).length
structure PlG (s : Pl) : Prop where
 len : s.B.length = 9
 lo : 0 ≤ s.last
 hi : s.last ≤ 8
theorem PlG.zero : PlG Pl0 := ⟨rfl, by decide, by decide⟩
theorem PlG.step {s : Pl} {c : Ct} (h : PlG s) (hc : cG c) : PlG (s.step c) := by
 obtain ⟨h1, h2, h3⟩ := h
 obtain ⟨_, c1, c2⟩ := hc
 refine ⟨?_, ?_, ?_⟩
 ·unfold Pl.step; dsimp only; split
  ·rw [List.length_set]; exact h1
  ·exact h1
 ·show 0 ≤ max s.last c.sq; omega
 ·show max s.last c.sq ≤ 8; omega
theorem PlG.rn {s : Pl} {cs : List Ct} (h : PlG s) (hc : ∀ j, j < cs.length → cG (cs.getD j Ct0)) : ∀ k, k ≤ cs.length → PlG (rnS s cs k)
 | 0, _ => h
 | k + 1, hk => (PlG.rn h hc k (by omega)).step (hc k (by omega))
theorem PlG.pl (n : Int) (L : List Msg) : ∀ i, PlG (plS n L i)
 | 0 => PlG.zero
 | i + 1 => PlG.rn (PlG.pl n L i) (vcO_good n _) _ (Nat.le_refl _)
def rowB (c : Ct) : List V := if c.ps.length = 0 then [.str ⟨#[]⟩, .nsl] else c.V
def ouP (s : Pl) : Nat → List ByteArray
 | 0 => []
 | k + 1 => ouP s k ++ [if (s.B.getD (k + 1) Ct0).ps.length = 0 then nullT else (s.B.getD (k + 1) Ct0).bd]
def okP (n vw : Int) (L : List Msg) (i : Nat) : Prop := okV n (L.getD i Msg0) ∧ (L.getD i Msg0).vw = vw ∧ (0 < i → (L.getD (i - 1) Msg0).fr < (L.getD i Msg0).fr)
def planOK (n vw : Int) (L : List Msg) : Prop := (L.length : Int) = quo n ∧ ∀ i, i < L.length → okP n vw L i
noncomputable instance dcPo (n vw : Int) (L : List Msg) : Decidable (planOK n vw L) := Classical.propDecidable _
noncomputable def plC (n vw : Int) (L : List Msg) : Int := if (L.length : Int) = quo n then if planOK n vw L then 0 else 12 else 19
noncomputable def plO (n vw : Int) (L : List Msg) : List ByteArray := if planOK n vw L then ouP (plS n L L.length) ((plS n L L.length).last + 1 - 1).toNat else []
open Go.V
set_option linter.unusedVariables false
set_option linter.unusedSimpArgs false
set_option maxRecDepth 20000
set_option maxHeartbeats 4000000
def BB (s : Pl) : Option Blk := some ⟨s.B.map rowB, 2, 44⟩
structure QS where
 i : Nat
 m : Nat
 g : Heap
structure QI (n vw : Int) (L : List Msg) (a : QS) : Prop where
 il : a.i ≤ L.length
 g0 : a.g 0 = BB (plS n L a.i)
 mm : 1 ≤ a.m
 ok : ∀ j, j < a.i → okP n vw L j
structure RI (s : Pl) (cs : List Ct) (a : QS) : Prop where
 il : a.i ≤ cs.length
 g0 : a.g 0 = BB (rnS s cs a.i)
 mm : 1 ≤ a.m
structure US where
 i : Nat
 o : V
 b : Nat
 m : Nat
 g : Heap
structure UI (s : Pl) (a : US) : Prop where
 il : a.i ≤ (s.last + 1 - 1).toNat
 g0 : a.g 0 = BB s
 mm : 1 ≤ a.m
 out : LsOK tV 1 9 1 (ouP s a.i) a.o a.b a.m a.g
open Go.V
set_option linter.unusedVariables false
set_option linter.unusedSimpArgs false
set_option maxRecDepth 20000
set_option maxHeartbeats 4000000
noncomputable instance dcPr (n vw : Int) : Decidable (nodes n ∧ 1 ≤ vw ∧ vw ≤ 20) := Classical.propDecidable _
noncomputable def pnC (n vw : Int) (L : List Msg) : Int := if 4096 < L.length then 2 else if nodes n ∧ 1 ≤ vw ∧ vw ≤ 20 then plC n vw L else 4
noncomputable def pnO (n vw : Int) (L : List Msg) : List ByteArray := if 4096 < L.length then [] else if nodes n ∧ 1 ≤ vw ∧ vw ≤ 20 then plO n vw L else []
open Go.V
set_option linter.unusedVariables false
set_option linter.unusedSimpArgs false
set_option maxRecDepth 20000
set_option maxHeartbeats 4000000
theorem r59 (n : Int) (hn : nodes n) : Pure En 59 [.one (.int .i64 n)] [.one (.int .i64 (quo n))] := by
 rcases hn with rfl | rfl | rfl
 all_goals
  refine Pure.of_ev (st := []) Tryz.func59 rfl kb ?_
  refine C0 ?_
  refine B9 ?_
  refine C0 ?_
  refine C0 ?_
  exact B4 rfl rfl
theorem r223 (r : Rg) : Pure En 223 [.agg r.T] [.one (.bool (decide r.OK))] := by
 refine Pure.of_ev (st := []) Tryz.func223 rfl kb ?_
 refine A1 ?_
 refine B0 (O3 _ _ _) rfl j2 ?_ ?_ <;> intro h1_2
 ·refine A1 ?_
  refine B0 (O3 _ _ _) rfl j2 ?_ ?_ <;> intro h1_6
  ·refine A1 ?_
   refine br ?_ ?_ <;> intro h1_12
   ·first | (refine B7 rfl ?_; unfold Rg.OK; omega) | (refine A7 rfl ?_; unfold Rg.OK; omega)
   ·first | (refine B7 rfl ?_; unfold Rg.OK; omega) | (refine A7 rfl ?_; unfold Rg.OK; omega)
  ·first | (refine B7 rfl ?_; unfold Rg.OK; omega) | (refine A7 rfl ?_; unfold Rg.OK; omega)
 ·first | (refine B7 rfl ?_; unfold Rg.OK; omega) | (refine A7 rfl ?_; unfold Rg.OK; omega)
theorem r165 (m : Msg) : Pure En 165 [.agg m.T] [.one (.bool (decide m.OK))] := by
 refine Pure.of_ev (st := []) Tryz.func165 rfl kb ?_
 refine A1 ?_
 refine B0 (O3 _ _ _) rfl j2 ?_ ?_ <;> intro h1_2
 ·refine A1 ?_
  refine B0 (O3 _ _ _) rfl j2 ?_ ?_ <;> intro h1_7
  ·refine A1 ?_
   refine B0 (O3 _ _ _) rfl j2 ?_ ?_ <;> intro h1_13
   ·refine A1 ?_
    refine br ?_ ?_ <;> intro h1_20
    ·first
     | (refine B7 rfl ?_; unfold Msg.OK; refine ⟨by omega, by omega, by omega, by omega, by omega, ?_⟩; first | (rw [if_pos (by omega)]; exact ⟨by omega, by omega, (by constructor <;> intro q <;> first | assumption | exact absurd q (by assumption) | omega | (exact absurd (by assumption) q))⟩) | (rw [if_neg (by omega)]; exact ⟨by omega, by assumption⟩))
     | (refine A7 rfl (fun e => ?_); unfold Msg.OK at e; obtain ⟨e1, e2, e3, e4, e5, e6⟩ := e; first | omega | (rw [if_pos (by omega)] at e6; obtain ⟨f1, f2, f3⟩ := e6; first | omega | exact absurd (f3.2 (by omega)) (by first | assumption | (intro q; exact q (by assumption))) | exact absurd (f3.1 (by assumption)) (by omega)) | (rw [if_neg (by omega)] at e6; first | omega | exact absurd e6.2 (by assumption)))
    ·refine A1 ?_
     refine br ?_ ?_ <;> intro h1_26
     ·first
      | (refine B7 rfl ?_; unfold Msg.OK; refine ⟨by omega, by omega, by omega, by omega, by omega, ?_⟩; first | (rw [if_pos (by omega)]; exact ⟨by omega, by omega, (by constructor <;> intro q <;> first | assumption | exact absurd q (by assumption) | omega | (exact absurd (by assumption) q))⟩) | (rw [if_neg (by omega)]; exact ⟨by omega, by assumption⟩))
      | (refine A7 rfl (fun e => ?_); unfold Msg.OK at e; obtain ⟨e1, e2, e3, e4, e5, e6⟩ := e; first | omega | (rw [if_pos (by omega)] at e6; obtain ⟨f1, f2, f3⟩ := e6; first | omega | exact absurd (f3.2 (by omega)) (by first | assumption | (intro q; exact q (by assumption))) | exact absurd (f3.1 (by assumption)) (by omega)) | (rw [if_neg (by omega)] at e6; first | omega | exact absurd e6.2 (by assumption)))
     ·refine A1 ?_
      refine br ?_ ?_ <;> intro h4_0
      ·refine A1 ?_
       refine B0 (O3 _ _ _) rfl j2 ?_ ?_ <;> intro h5_2
       ·refine A1 ?_
        refine br ?_ ?_ <;> intro h5_7
        ·refine A1 ?_
         refine br ?_ ?_ <;> intro h5_12
         ·first
          | (refine B7 rfl ?_; unfold Msg.OK; refine ⟨by omega, by omega, by omega, by omega, by omega, ?_⟩; first | (rw [if_pos (by omega)]; exact ⟨by omega, by omega, (by constructor <;> intro q <;> first | assumption | exact absurd q (by assumption) | omega | (exact absurd (by assumption) q))⟩) | (rw [if_neg (by omega)]; exact ⟨by omega, by assumption⟩))
          | (refine A7 rfl (fun e => ?_); unfold Msg.OK at e; obtain ⟨e1, e2, e3, e4, e5, e6⟩ := e; first | omega | (rw [if_pos (by omega)] at e6; obtain ⟨f1, f2, f3⟩ := e6; first | omega | exact absurd (f3.2 (by omega)) (by first | assumption | (intro q; exact q (by assumption))) | exact absurd (f3.1 (by assumption)) (by omega)) | (rw [if_neg (by omega)] at e6; first | omega | exact absurd e6.2 (by assumption)))
         ·first
          | (refine B7 rfl ?_; unfold Msg.OK; refine ⟨by omega, by omega, by omega, by omega, by omega, ?_⟩; first | (rw [if_pos (by omega)]; exact ⟨by omega, by omega, (by constructor <;> intro q <;> first | assumption | exact absurd q (by assumption) | omega | (exact absurd (by assumption) q))⟩) | (rw [if_neg (by omega)]; exact ⟨by omega, by assumption⟩))
          | (refine A7 rfl (fun e => ?_); unfold Msg.OK at e; obtain ⟨e1, e2, e3, e4, e5, e6⟩ := e; first | omega | (rw [if_pos (by omega)] at e6; obtain ⟨f1, f2, f3⟩ := e6; first | omega | exact absurd (f3.2 (by omega)) (by first | assumption | (intro q; exact q (by assumption))) | exact absurd (f3.1 (by assumption)) (by omega)) | (rw [if_neg (by omega)] at e6; first | omega | exact absurd e6.2 (by assumption)))
        ·first
         | (refine B7 rfl ?_; unfold Msg.OK; refine ⟨by omega, by omega, by omega, by omega, by omega, ?_⟩; first | (rw [if_pos (by omega)]; exact ⟨by omega, by omega, (by constructor <;> intro q <;> first | assumption | exact absurd q (by assumption) | omega | (exact absurd (by assumption) q))⟩) | (rw [if_neg (by omega)]; exact ⟨by omega, by assumption⟩))
         | (refine A7 rfl (fun e => ?_); unfold Msg.OK at e; obtain ⟨e1, e2, e3, e4, e5, e6⟩ := e; first | omega | (rw [if_pos (by omega)] at e6; obtain ⟨f1, f2, f3⟩ := e6; first | omega | exact absurd (f3.2 (by omega)) (by first | assumption | (intro q; exact q (by assumption))) | exact absurd (f3.1 (by assumption)) (by omega)) | (rw [if_neg (by omega)] at e6; first | omega | exact absurd e6.2 (by assumption)))
       ·first
        | (refine B7 rfl ?_; unfold Msg.OK; refine ⟨by omega, by omega, by omega, by omega, by omega, ?_⟩; first | (rw [if_pos (by omega)]; exact ⟨by omega, by omega, (by constructor <;> intro q <;> first | assumption | exact absurd q (by assumption) | omega | (exact absurd (by assumption) q))⟩) | (rw [if_neg (by omega)]; exact ⟨by omega, by assumption⟩))
        | (refine A7 rfl (fun e => ?_); unfold Msg.OK at e; obtain ⟨e1, e2, e3, e4, e5, e6⟩ := e; first | omega | (rw [if_pos (by omega)] at e6; obtain ⟨f1, f2, f3⟩ := e6; first | omega | exact absurd (f3.2 (by omega)) (by first | assumption | (intro q; exact q (by assumption))) | exact absurd (f3.1 (by assumption)) (by omega)) | (rw [if_neg (by omega)] at e6; first | omega | exact absurd e6.2 (by assumption)))
      ·refine br ?_ ?_ <;> intro h6_0
       ·refine A1 ?_
        refine B0 (O3 _ _ _) rfl j2 ?_ ?_ <;> intro h8_2
        ·refine A1 ?_
         refine br ?_ ?_ <;> intro h8_7
         ·refine A1 ?_
          refine br ?_ ?_ <;> intro h8_12
          ·first
           | (refine B7 rfl ?_; unfold Msg.OK; refine ⟨by omega, by omega, by omega, by omega, by omega, ?_⟩; first | (rw [if_pos (by omega)]; exact ⟨by omega, by omega, (by constructor <;> intro q <;> first | assumption | exact absurd q (by assumption) | omega | (exact absurd (by assumption) q))⟩) | (rw [if_neg (by omega)]; exact ⟨by omega, by assumption⟩))
           | (refine A7 rfl (fun e => ?_); unfold Msg.OK at e; obtain ⟨e1, e2, e3, e4, e5, e6⟩ := e; first | omega | (rw [if_pos (by omega)] at e6; obtain ⟨f1, f2, f3⟩ := e6; first | omega | exact absurd (f3.2 (by omega)) (by first | assumption | (intro q; exact q (by assumption))) | exact absurd (f3.1 (by assumption)) (by omega)) | (rw [if_neg (by omega)] at e6; first | omega | exact absurd e6.2 (by assumption)))
          ·first
           | (refine B7 rfl ?_; unfold Msg.OK; refine ⟨by omega, by omega, by omega, by omega, by omega, ?_⟩; first | (rw [if_pos (by omega)]; exact ⟨by omega, by omega, (by constructor <;> intro q <;> first | assumption | exact absurd q (by assumption) | omega | (exact absurd (by assumption) q))⟩) | (rw [if_neg (by omega)]; exact ⟨by omega, by assumption⟩))
           | (refine A7 rfl (fun e => ?_); unfold Msg.OK at e; obtain ⟨e1, e2, e3, e4, e5, e6⟩ := e; first | omega | (rw [if_pos (by omega)] at e6; obtain ⟨f1, f2, f3⟩ := e6; first | omega | exact absurd (f3.2 (by omega)) (by first | assumption | (intro q; exact q (by assumption))) | exact absurd (f3.1 (by assumption)) (by omega)) | (rw [if_neg (by omega)] at e6; first | omega | exact absurd e6.2 (by assumption)))
         ·first
          | (refine B7 rfl ?_; unfold Msg.OK; refine ⟨by omega, by omega, by omega, by omega, by omega, ?_⟩; first | (rw [if_pos (by omega)]; exact ⟨by omega, by omega, (by constructor <;> intro q <;> first | assumption | exact absurd q (by assumption) | omega | (exact absurd (by assumption) q))⟩) | (rw [if_neg (by omega)]; exact ⟨by omega, by assumption⟩))
          | (refine A7 rfl (fun e => ?_); unfold Msg.OK at e; obtain ⟨e1, e2, e3, e4, e5, e6⟩ := e; first | omega | (rw [if_pos (by omega)] at e6; obtain ⟨f1, f2, f3⟩ := e6; first | omega | exact absurd (f3.2 (by omega)) (by first | assumption | (intro q; exact q (by assumption))) | exact absurd (f3.1 (by assumption)) (by omega)) | (rw [if_neg (by omega)] at e6; first | omega | exact absurd e6.2 (by assumption)))
        ·first
         | (refine B7 rfl ?_; unfold Msg.OK; refine ⟨by omega, by omega, by omega, by omega, by omega, ?_⟩; first | (rw [if_pos (by omega)]; exact ⟨by omega, by omega, (by constructor <;> intro q <;> first | assumption | exact absurd q (by assumption) | omega | (exact absurd (by assumption) q))⟩) | (rw [if_neg (by omega)]; exact ⟨by omega, by assumption⟩))
         | (refine A7 rfl (fun e => ?_); unfold Msg.OK at e; obtain ⟨e1, e2, e3, e4, e5, e6⟩ := e; first | omega | (rw [if_pos (by omega)] at e6; obtain ⟨f1, f2, f3⟩ := e6; first | omega | exact absurd (f3.2 (by omega)) (by first | assumption | (intro q; exact q (by assumption))) | exact absurd (f3.1 (by assumption)) (by omega)) | (rw [if_neg (by omega)] at e6; first | omega | exact absurd e6.2 (by assumption)))
       ·refine br ?_ ?_ <;> intro h7_0
        ·refine A1 ?_
         refine B0 (O3 _ _ _) rfl j2 ?_ ?_ <;> intro h8_2
         ·refine A1 ?_
          refine br ?_ ?_ <;> intro h8_7
          ·refine A1 ?_
           refine br ?_ ?_ <;> intro h8_12
           ·first
            | (refine B7 rfl ?_; unfold Msg.OK; refine ⟨by omega, by omega, by omega, by omega, by omega, ?_⟩; first | (rw [if_pos (by omega)]; exact ⟨by omega, by omega, (by constructor <;> intro q <;> first | assumption | exact absurd q (by assumption) | omega | (exact absurd (by assumption) q))⟩) | (rw [if_neg (by omega)]; exact ⟨by omega, by assumption⟩))
            | (refine A7 rfl (fun e => ?_); unfold Msg.OK at e; obtain ⟨e1, e2, e3, e4, e5, e6⟩ := e; first | omega | (rw [if_pos (by omega)] at e6; obtain ⟨f1, f2, f3⟩ := e6; first | omega | exact absurd (f3.2 (by omega)) (by first | assumption | (intro q; exact q (by assumption))) | exact absurd (f3.1 (by assumption)) (by omega)) | (rw [if_neg (by omega)] at e6; first | omega | exact absurd e6.2 (by assumption)))
           ·first
            | (refine B7 rfl ?_; unfold Msg.OK; refine ⟨by omega, by omega, by omega, by omega, by omega, ?_⟩; first | (rw [if_pos (by omega)]; exact ⟨by omega, by omega, (by constructor <;> intro q <;> first | assumption | exact absurd q (by assumption) | omega | (exact absurd (by assumption) q))⟩) | (rw [if_neg (by omega)]; exact ⟨by omega, by assumption⟩))
            | (refine A7 rfl (fun e => ?_); unfold Msg.OK at e; obtain ⟨e1, e2, e3, e4, e5, e6⟩ := e; first | omega | (rw [if_pos (by omega)] at e6; obtain ⟨f1, f2, f3⟩ := e6; first | omega | exact absurd (f3.2 (by omega)) (by first | assumption | (intro q; exact q (by assumption))) | exact absurd (f3.1 (by assumption)) (by omega)) | (rw [if_neg (by omega)] at e6; first | omega | exact absurd e6.2 (by assumption)))
          ·first
           | (refine B7 rfl ?_; unfold Msg.OK; refine ⟨by omega, by omega, by omega, by omega, by omega, ?_⟩; first | (rw [if_pos (by omega)]; exact ⟨by omega, by omega, (by constructor <;> intro q <;> first | assumption | exact absurd q (by assumption) | omega | (exact absurd (by assumption) q))⟩) | (rw [if_neg (by omega)]; exact ⟨by omega, by assumption⟩))
           | (refine A7 rfl (fun e => ?_); unfold Msg.OK at e; obtain ⟨e1, e2, e3, e4, e5, e6⟩ := e; first | omega | (rw [if_pos (by omega)] at e6; obtain ⟨f1, f2, f3⟩ := e6; first | omega | exact absurd (f3.2 (by omega)) (by first | assumption | (intro q; exact q (by assumption))) | exact absurd (f3.1 (by assumption)) (by omega)) | (rw [if_neg (by omega)] at e6; first | omega | exact absurd e6.2 (by assumption)))
         ·first
          | (refine B7 rfl ?_; unfold Msg.OK; refine ⟨by omega, by omega, by omega, by omega, by omega, ?_⟩; first | (rw [if_pos (by omega)]; exact ⟨by omega, by omega, (by constructor <;> intro q <;> first | assumption | exact absurd q (by assumption) | omega | (exact absurd (by assumption) q))⟩) | (rw [if_neg (by omega)]; exact ⟨by omega, by assumption⟩))
          | (refine A7 rfl (fun e => ?_); unfold Msg.OK at e; obtain ⟨e1, e2, e3, e4, e5, e6⟩ := e; first | omega | (rw [if_pos (by omega)] at e6; obtain ⟨f1, f2, f3⟩ := e6; first | omega | exact absurd (f3.2 (by omega)) (by first | assumption | (intro q; exact q (by assumption))) | exact absurd (f3.1 (by assumption)) (by omega)) | (rw [if_neg (by omega)] at e6; first | omega | exact absurd e6.2 (by assumption)))
        ·refine A1 ?_
         refine br ?_ ?_ <;> intro h9_2
         ·refine A1 ?_
          refine br ?_ ?_ <;> intro h9_6
          ·first
           | (refine B7 rfl ?_; unfold Msg.OK; refine ⟨by omega, by omega, by omega, by omega, by omega, ?_⟩; first | (rw [if_pos (by omega)]; exact ⟨by omega, by omega, (by constructor <;> intro q <;> first | assumption | exact absurd q (by assumption) | omega | (exact absurd (by assumption) q))⟩) | (rw [if_neg (by omega)]; exact ⟨by omega, by assumption⟩))
           | (refine A7 rfl (fun e => ?_); unfold Msg.OK at e; obtain ⟨e1, e2, e3, e4, e5, e6⟩ := e; first | omega | (rw [if_pos (by omega)] at e6; obtain ⟨f1, f2, f3⟩ := e6; first | omega | exact absurd (f3.2 (by omega)) (by first | assumption | (intro q; exact q (by assumption))) | exact absurd (f3.1 (by assumption)) (by omega)) | (rw [if_neg (by omega)] at e6; first | omega | exact absurd e6.2 (by assumption)))
          ·first
           | (refine B7 rfl ?_; unfold Msg.OK; refine ⟨by omega, by omega, by omega, by omega, by omega, ?_⟩; first | (rw [if_pos (by omega)]; exact ⟨by omega, by omega, (by constructor <;> intro q <;> first | assumption | exact absurd q (by assumption) | omega | (exact absurd (by assumption) q))⟩) | (rw [if_neg (by omega)]; exact ⟨by omega, by assumption⟩))
           | (refine A7 rfl (fun e => ?_); unfold Msg.OK at e; obtain ⟨e1, e2, e3, e4, e5, e6⟩ := e; first | omega | (rw [if_pos (by omega)] at e6; obtain ⟨f1, f2, f3⟩ := e6; first | omega | exact absurd (f3.2 (by omega)) (by first | assumption | (intro q; exact q (by assumption))) | exact absurd (f3.1 (by assumption)) (by omega)) | (rw [if_neg (by omega)] at e6; first | omega | exact absurd e6.2 (by assumption)))
         ·first
          | (refine B7 rfl ?_; unfold Msg.OK; refine ⟨by omega, by omega, by omega, by omega, by omega, ?_⟩; first | (rw [if_pos (by omega)]; exact ⟨by omega, by omega, (by constructor <;> intro q <;> first | assumption | exact absurd q (by assumption) | omega | (exact absurd (by assumption) q))⟩) | (rw [if_neg (by omega)]; exact ⟨by omega, by assumption⟩))
          | (refine A7 rfl (fun e => ?_); unfold Msg.OK at e; obtain ⟨e1, e2, e3, e4, e5, e6⟩ := e; first | omega | (rw [if_pos (by omega)] at e6; obtain ⟨f1, f2, f3⟩ := e6; first | omega | exact absurd (f3.2 (by omega)) (by first | assumption | (intro q; exact q (by assumption))) | exact absurd (f3.1 (by assumption)) (by omega)) | (rw [if_neg (by omega)] at e6; first | omega | exact absurd e6.2 (by assumption)))
   ·first
    | (refine B7 rfl ?_; unfold Msg.OK; refine ⟨by omega, by omega, by omega, by omega, by omega, ?_⟩; first | (rw [if_pos (by omega)]; exact ⟨by omega, by omega, (by constructor <;> intro q <;> first | assumption | exact absurd q (by assumption) | omega | (exact absurd (by assumption) q))⟩) | (rw [if_neg (by omega)]; exact ⟨by omega, by assumption⟩))
    | (refine A7 rfl (fun e => ?_); unfold Msg.OK at e; obtain ⟨e1, e2, e3, e4, e5, e6⟩ := e; first | omega | (rw [if_pos (by omega)] at e6; obtain ⟨f1, f2, f3⟩ := e6; first | omega | exact absurd (f3.2 (by omega)) (by first | assumption | (intro q; exact q (by assumption))) | exact absurd (f3.1 (by assumption)) (by omega)) | (rw [if_neg (by omega)] at e6; first | omega | exact absurd e6.2 (by assumption)))
  ·first
   | (refine B7 rfl ?_; unfold Msg.OK; refine ⟨by omega, by omega, by omega, by omega, by omega, ?_⟩; first | (rw [if_pos (by omega)]; exact ⟨by omega, by omega, (by constructor <;> intro q <;> first | assumption | exact absurd q (by assumption) | omega | (exact absurd (by assumption) q))⟩) | (rw [if_neg (by omega)]; exact ⟨by omega, by assumption⟩))
   | (refine A7 rfl (fun e => ?_); unfold Msg.OK at e; obtain ⟨e1, e2, e3, e4, e5, e6⟩ := e; first | omega | (rw [if_pos (by omega)] at e6; obtain ⟨f1, f2, f3⟩ := e6; first | omega | exact absurd (f3.2 (by omega)) (by first | assumption | (intro q; exact q (by assumption))) | exact absurd (f3.1 (by assumption)) (by omega)) | (rw [if_neg (by omega)] at e6; first | omega | exact absurd e6.2 (by assumption)))
 ·first
  | (refine B7 rfl ?_; unfold Msg.OK; refine ⟨by omega, by omega, by omega, by omega, by omega, ?_⟩; first | (rw [if_pos (by omega)]; exact ⟨by omega, by omega, (by constructor <;> intro q <;> first | assumption | exact absurd q (by assumption) | omega | (exact absurd (by assumption) q))⟩) | (rw [if_neg (by omega)]; exact ⟨by omega, by assumption⟩))
  | (refine A7 rfl (fun e => ?_); unfold Msg.OK at e; obtain ⟨e1, e2, e3, e4, e5, e6⟩ := e; first | omega | (rw [if_pos (by omega)] at e6; obtain ⟨f1, f2, f3⟩ := e6; first | omega | exact absurd (f3.2 (by omega)) (by first | assumption | (intro q; exact q (by assumption))) | exact absurd (f3.1 (by assumption)) (by omega)) | (rw [if_neg (by omega)] at e6; first | omega | exact absurd e6.2 (by assumption)))
theorem r222 (x : Bt) (b : Bool) : Pure En 222 [.agg (x.T b)] [.one (.bool (decide x.OK))] := by
 have hl : (x.rs.map Rg.T).length = x.rs.length := List.length_map ..
 refine Pure.of_ev (st := []) Tryz.func222 rfl kb ?_
 refine A1 ?_
 refine brB ?_ ?_ <;> intro h1_1
 ·(apply C3 (vs := [.int _ _, .int _ _, .int _ _, .int _ _, .str _]) j2; exact Q0; rfl; rfl; exact kb; rfl)
  refine eSeql j3 (by kernel_rfl) (eqRqZ x.rq) ?_ ?_ <;> intro h2_3
  ·refine A1 ?_
   refine br ?_ ?_ <;> intro h2_8
   ·first
    | (refine B7 rfl ?_; unfold Bt.OK; rw [if_pos h1_1]; exact ⟨of_decide_eq_true h2_3, by omega⟩)
    | (refine A7 rfl (fun e => ?_); unfold Bt.OK at e; rw [if_pos h1_1] at e; first | exact absurd e.1 (of_decide_eq_false h2_3) | (have := e.2; omega))
   ·first
    | (refine B7 rfl ?_; unfold Bt.OK; rw [if_pos h1_1]; exact ⟨of_decide_eq_true h2_3, by omega⟩)
    | (refine A7 rfl (fun e => ?_); unfold Bt.OK at e; rw [if_pos h1_1] at e; first | exact absurd e.1 (of_decide_eq_false h2_3) | (have := e.2; omega))
  ·first
   | (refine B7 rfl ?_; unfold Bt.OK; rw [if_pos h1_1]; exact ⟨of_decide_eq_true h2_3, by omega⟩)
   | (refine A7 rfl (fun e => ?_); unfold Bt.OK at e; rw [if_pos h1_1] at e; first | exact absurd e.1 (of_decide_eq_false h2_3) | (have := e.2; omega))
 ·(apply C3 (vs := [.int _ _, .int _ _, .int _ _, .int _ _, .str _]) j2; exact Q0; rfl; rfl; exact kb; rfl)
  refine B0 (s52 x.rq) rfl j2 ?_ ?_ <;> intro h3_2
  ·refine A1 ?_
   refine br ?_ ?_ <;> intro h3_8
   ·refine A7 rfl (fun e => ?_); unfold Bt.OK at e; rw [if_neg (by rw [h1_1]; exact Bool.noConfusion)] at e; first | exact absurd e.1 h3_2 | (have := e.2.1; omega)
   ·refine B3 (fun (i : Nat) => [.unk, .ptr 0 0 0, .unk, .int .i64 i]) (fun (i : Nat) => hp [(0, ⟨[[.bool x.nl, .int .i64 x.rq.cl, .int .i64 x.rq.st, .int .i64 x.rq.kd, .int .i64 x.rq.le, .str x.rq.nm, .sl false b (x.rs.map Rg.T)]], 7, 200⟩)]) (fun (i : Nat) => 1) (fun (i : Nat) => i ≤ x.rs.length ∧ ∀ j, j < i → (x.rs.getD j Rg0).OK ∧ (0 < j → (x.rs.getD (j - 1) Rg0).fr < (x.rs.getD j Rg0).fr)) (fun (i : Nat) => x.rs.length - i) 0 ?_ ?_ ?_ ?_ ?_
    ·exact ⟨Nat.zero_le _, E6⟩
    ·(repeat first | exact LE.nil _ | refine LE.unk _ _ ?_ | refine LE.eq _ _ _ rfl ?_)
    ·(repeat first | exact A5 | (refine A4 ?_ ?_; exact H8))
    ·exact Nat.le_refl _
    intro i hI ih
    obtain ⟨q0, q2⟩ := hI
    refine A6 (st := []) ?_
    refine A1 ?_
    refine br ?_ ?_ <;> intro h6_4
    ·refine A1 ?_
     (refine B9 (C5 (by first | rfl | assumption | exact Q36) rfl ?_))
     refine B0 (r223 (x.rs.getD i Rg0)) rfl j2 ?_ ?_ <;> intro h8_5
     ·refine br ?_ ?_ <;> intro h8_9
      ·refine A1 ?_
       refine C0 ?_
       (refine B9 (C5 (by first | rfl | assumption | exact Q36) rfl ?_))
       refine A1 ?_
       (refine B9 (C5 (by first | rfl | assumption | exact Q36) rfl ?_))
       refine br ?_ ?_ <;> intro h8_24
       ·refine A7 rfl (fun e => ?_); unfold Bt.OK at e; rw [if_neg (by rw [h1_1]; exact Bool.noConfusion)] at e; first | exact absurd (e.2.2 i (by omega)).1 h8_5 | (have := (e.2.2 i (by omega)).2 (by omega); omega)
       ·refine C0 ?_
        exact C6 (ih (i + 1) ⟨by omega, C8 q2 ⟨h8_5, fun _ => by omega⟩⟩ (by omega)) (by (repeat first | exact LE.nil _ | refine LE.unk _ _ ?_ | refine LE.eq _ _ _ rfl ?_)) (by (repeat first | exact A5 | (refine A4 ?_ ?_; exact H8))) (Nat.le_refl _)
      ·refine C0 ?_
       exact C6 (ih (i + 1) ⟨by omega, C8 q2 ⟨h8_5, fun _ => by omega⟩⟩ (by omega)) (by (repeat first | exact LE.nil _ | refine LE.unk _ _ ?_ | refine LE.eq _ _ _ rfl ?_)) (by (repeat first | exact A5 | (refine A4 ?_ ?_; exact H8))) (Nat.le_refl _)
     ·refine A7 rfl (fun e => ?_); unfold Bt.OK at e; rw [if_neg (by rw [h1_1]; exact Bool.noConfusion)] at e; first | exact absurd (e.2.2 i (by omega)).1 h8_5 | (have := (e.2.2 i (by omega)).2 (by omega); omega)
    ·refine B7 rfl ?_; unfold Bt.OK; rw [if_neg (by rw [h1_1]; exact Bool.noConfusion)]; exact ⟨h3_2, by omega, fun j hj => q2 j (by omega)⟩
  ·refine A7 rfl (fun e => ?_); unfold Bt.OK at e; rw [if_neg (by rw [h1_1]; exact Bool.noConfusion)] at e; first | exact absurd e.1 h3_2 | (have := e.2.1; omega)
end Go.Proofs.YteifdelnahccjaaGreatDoor
