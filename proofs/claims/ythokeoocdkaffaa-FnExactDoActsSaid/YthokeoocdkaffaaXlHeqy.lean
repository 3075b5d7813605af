/- A yard is what it is: the laws' own comparison. -/
import Derived.Test.YthokeoocdkaffaaXl0
import Derived.Test.YthokeoocdkaffaaXlHarr7
import Derived.Test.YthokeoocdkaffaaXlHgood
import Derived.OneCell
import Derived.Shelf.Abstract
import Derived.Outline
import Derived.BigQuiet
import Derived.Deep.QuietTactic
import Derived.RegionTactic
import Derived.BigRegion
namespace Go.Proofs.Ythokeoocdkaffaa.Xl
open Go.RowKit Go.Proofs.YthokeoocdkaffaaW.PrintWords Go.Proofs.YthokeoocdkaffaaW.PrintLast Go.Proofs.YthokeoocdkaffaaW.PrintMore
attribute [local go_sem] max2_int min2_int max_two min_two max_three min_three max_four min_four
set_option linter.unusedVariables false
set_option linter.unusedSimpArgs false
set_option maxHeartbeats 8000000 in
set_option maxRecDepth 100000 in
theorem eqYard_selfD (p0 p1 p2 : Nat → Int) (cn : Int) (w : World) : Calls Try.prog 12 #[.agg (arr (y22 p0 p1 p2 cn)), .agg (arr (y22 p0 p1 p2 cn))] w fun e w' => e = .returned (.bool true) ∧ Below w.heap.size w w' := by
  have z1 := blk_alloc (blk_new w (.cells (arr (y22 p0 p1 p2 cn)) 25)) (.cells (arr (y22 p0 p1 p2 cn)) 25)
  have z2 := blk_new (w.alloc (.cells (arr (y22 p0 p1 p2 cn)) 25)) (.cells (arr (y22 p0 p1 p2 cn)) 25)
  rw [World.size_alloc] at z2
  have Z1 := Aside0.mk z1
  have A1 := Aside0.mk z2
  have B1 := Aside0.mk (below_alloc (below_alloc (Below.refl w.heap.size w) (.cells (arr (y22 p0 p1 p2 cn)) 25)) (.cells (arr (y22 p0 p1 p2 cn)) 25))
  have S1 := Aside0.mk (rfl : (1 : Nat) = 1)
  have S2 := Aside0.mk (rfl : (1 : Nat) = 1)
  have S3 := Aside0.mk (rfl : (1 : Nat) = 1)
  clear z1 z2
  go_enter Try.func12, Try.ntmps12
  go_wp2_with (first
    | ((with_reducible refine gate_dst (N := 6) rfl ?_); refine Kd.event_run rfl (execLoad (addr := .pointer (some ⟨w.heap.size, 0, none⟩)) (v := .agg (arr (m7 p0))) rfl rfl (load7 (by have h_ := Z1.out; rw [y22_0] at h_; exact h_) (by rfl))) ?_)
    | ((with_reducible refine gate_dst (N := 8) rfl ?_); refine Kd.event_run rfl (execLoad (addr := .pointer (some ⟨w.heap.size + 1, 0, none⟩)) (v := .agg (arr (m7 p0))) rfl rfl (load7 (by have h_ := A1.out; rw [y22_0] at h_; exact h_) (by rfl))) ?_)
    | (go_at_call 36; clear S1; (refine (laws_eqIntA7_walk p0 p0 true (fun _ => rfl) (fun j _ h => absurd rfl h) _).mono ?_); rintro e w2 ⟨rfl, hb⟩; have Z2 := Aside0.mk ((hb.block _ (lt_of_block Z1.out)).trans Z1.out); have A2 := Aside0.mk ((hb.block _ (lt_of_block A1.out)).trans A1.out); have B2 := Aside0.mk (below_step B1.out hb); have q2 := y22_3 Z2.out; have r2 := y22_3 A2.out; clear hb)
    | ((with_reducible refine gate_dst (N := 12) rfl ?_); refine Kd.event_run rfl (execLoad (addr := .pointer (some ⟨w.heap.size, 7, none⟩)) (v := .agg (arr (m7 p1))) rfl rfl (load7 (by have h_ := Z2.out; rw [y22_1] at h_; exact h_) (by rfl))) ?_)
    | ((with_reducible refine gate_dst (N := 14) rfl ?_); refine Kd.event_run rfl (execLoad (addr := .pointer (some ⟨w.heap.size + 1, 7, none⟩)) (v := .agg (arr (m7 p1))) rfl rfl (load7 (by have h_ := A2.out; rw [y22_1] at h_; exact h_) (by rfl))) ?_)
    | (go_at_call 36; clear S2; (refine (laws_eqIntA7_walk p1 p1 true (fun _ => rfl) (fun j _ h => absurd rfl h) _).mono ?_); rintro e w3 ⟨rfl, hb⟩; have Z3 := Aside0.mk ((hb.block _ (lt_of_block Z2.out)).trans Z2.out); have A3 := Aside0.mk ((hb.block _ (lt_of_block A2.out)).trans A2.out); have B3 := Aside0.mk (below_step B2.out hb); have q3 := y22_3 Z3.out; have r3 := y22_3 A3.out; clear hb)
    | ((with_reducible refine gate_dst (N := 18) rfl ?_); refine Kd.event_run rfl (execLoad (addr := .pointer (some ⟨w.heap.size, 14, none⟩)) (v := .agg (arr (m7 p2))) rfl rfl (load7 (by have h_ := Z3.out; rw [y22_2] at h_; exact h_) (by rfl))) ?_)
    | ((with_reducible refine gate_dst (N := 20) rfl ?_); refine Kd.event_run rfl (execLoad (addr := .pointer (some ⟨w.heap.size + 1, 14, none⟩)) (v := .agg (arr (m7 p2))) rfl rfl (load7 (by have h_ := A3.out; rw [y22_2] at h_; exact h_) (by rfl))) ?_)
    | (go_at_call 36; clear S3; (refine (laws_eqIntA7_walk p2 p2 true (fun _ => rfl) (fun j _ h => absurd rfl h) _).mono ?_); rintro e w4 ⟨rfl, hb⟩; have Z4 := Aside0.mk ((hb.block _ (lt_of_block Z3.out)).trans Z3.out); have A4 := Aside0.mk ((hb.block _ (lt_of_block A3.out)).trans A3.out); have B4 := Aside0.mk (below_step B3.out hb); have q4 := y22_3 Z4.out; have r4 := y22_3 A4.out; clear hb))
  go_ret
  exact ⟨rfl, B4.out⟩

end Go.Proofs.Ythokeoocdkaffaa.Xl
