/- The parts of a yard, told: the reference and the program. -/
import Derived.Test.YthokeoocdkaffaaXq0
import Derived.Test.YthokeoocdkaffaaXqHarr7
import Derived.Test.YthokeoocdkaffaaXqHgood
import Derived.Test.YthokeoocdkaffaaXqHparts
import Derived.OneCell
import Derived.Lib.SliceRun
import Derived.Shelf.Abstract
import Derived.Deep.RegionHeld3
import Derived.Outline
import Derived.BigQuiet
import Derived.Deep.QuietTactic
import Derived.RegionTactic
import Derived.BigRegion
namespace Go.Proofs.Ythokeoocdkaffaa.Xq
open Go.RowKit Go.Proofs.YthokeoocdkaffaaW.PrintWords Go.Proofs.YthokeoocdkaffaaW.PrintLast Go.Proofs.YthokeoocdkaffaaW.PrintMore
attribute [local go_sem] max2_int min2_int max_two min_two max_three min_three max_four min_four
set_option linter.unusedVariables false
set_option linter.unusedSimpArgs false
theorem cells3 {w : World} {b e : Nat} {v0 v1 v2 : Value} (h : w.heap[b]? = some (.cells #[v0, v1, v2] e (0, 0))) : w.cell? ⟨b, 0, none⟩ = some v0 ∧ w.cell? ⟨b, 1, none⟩ = some v1 ∧ w.cell? ⟨b, 2, none⟩ = some v2 := by
  refine ⟨?_, ?_, ?_⟩ <;> rw [blk_cell h] <;> rfl
/-- What is told of a part. -/
def outL (r : Bool) (p : Nat → Int) : List Int := match r with
  | true => tw p
  | false => []
theorem C_none (W : World) (A : Option Addr) : Kd.C (Kd.int .i64) W A ([] : List Int).length [] := Kd.C_of_reads (d := (0 : Int)) ⟨rfl, by simp, fun h => absurd h (by simp)⟩
set_option maxHeartbeats 16000000 in
set_option maxRecDepth 100000 in
theorem specPartsOf_walk (k : Nat) (p0 p1 p2 : Nat → Int) (cn : Int) (r : Bool) (w : World) (h : goodF k p0 p1 p2 cn = some r) :
    Calls Try.prog 17 #[.agg (arr (y22 p0 p1 p2 cn))] w fun e w' => ∃ (A0 : Option Addr) (c0 : Nat) (A1 : Option Addr) (c1 : Nat) (A2 : Option Addr) (c2 : Nat), e = .returned (.tuple #[.slice A0 (outL r p0).length c0, .slice A1 (outL r p1).length c1, .slice A2 (outL r p2).length c2, .bool r]) ∧ (Kd.C (Kd.int .i64) w' A0 (outL r p0).length (outL r p0) ∧ (outL r p0).length ≤ c0) ∧ (Kd.C (Kd.int .i64) w' A1 (outL r p1).length (outL r p1) ∧ (outL r p1).length ≤ c1) ∧ (Kd.C (Kd.int .i64) w' A2 (outL r p2).length (outL r p2) ∧ (outL r p2).length ≤ c2) ∧ Below w.heap.size w w' := by
  have hu := Try.underlying25
  have hi : (Try.prog.info? 25).map (·.size) = some 22 := by kernel_rfl
  have H := Aside0.mk h
  have Z1 := Aside0.mk (blk_new w (.cells (arr (y22 p0 p1 p2 cn)) 25))
  have B1 := Aside0.mk (below_alloc (Below.refl w.heap.size w) (.cells (arr (y22 p0 p1 p2 cn)) 25))
  clear h
  cases r with
  | true =>
    go_enter Try.func17, Try.ntmps17
    go_upto_region 3 with (first
      | ((with_reducible refine gate_dst (N := 6) rfl ?_); refine load_row_event rfl 25 (.tmp 1) rfl w.heap.size rfl 25 (arr (y22 p0 p1 p2 cn)) _ Z1.out hu rfl hi ?_)
      | (go_at_call 37; (refine (l12Good_walk k p0 p1 p2 cn true _ H.out).mono ?_); rintro e w2 ⟨rfl, hb⟩; have B2 := Aside0.mk (below_step B1.out hb); have Z2 := Aside0.mk ((hb.block _ (lt_of_block Z1.out)).trans Z1.out); clear hb))
    refine wp_region_held_drew (S := (fun W => W.heap[w.heap.size]? = some (.cells (arr (y22 p0 p1 p2 cn)) 25 (0, 0)) ∧ Below w2.heap.size w2 W)) (by kernel_rfl) ⟨Z2.out, below_drew (Below.refl _ _)⟩ (fun hHeld => ?_)
    refine wpAnyH_take (i := 0) (oi := ?oia0) (v := ?va0) ?hia0 (by kernel_rfl) (by kernel_rfl) (by kernel_rfl) ?hQa0 ?hya0 hHeld ?ha0
    case hia0 => (simp only [List.getElem?_toArray, List.getElem?_cons_succ, List.getElem?_cons_zero]; rfl)
    case hQa0 => exact fun _ _ _ h => h
    case hya0 => exact Or.inl ⟨by rfl, by intro w_ hSw; (try dsimp only at hSw); first | (go_simp; done) | (go_simp; with_reducible rfl)⟩
    try simp only [Act.put, List.setIfInBounds_toArray, List.set_cons_zero, List.set_cons_succ]
    refine wpAnyH_take (i := 1) (oi := ?oia1) (v := (.agg (arr (m7 p0)))) ?hia1 (by kernel_rfl) (by kernel_rfl) (by kernel_rfl) ?hQa1 ?hya1 hHeld ?ha1
    case hia1 => (simp only [List.getElem?_toArray, List.getElem?_cons_succ, List.getElem?_cons_zero]; rfl)
    case hQa1 => exact fun _ _ _ h => h
    case hya1 => exact Or.inl ⟨by rfl, fun w_ hSw => execLoad (addr := .pointer (some ⟨w.heap.size, 0, none⟩)) (v := .agg (arr (m7 p0))) rfl rfl (load7 (by have h_ := hSw.1; rw [y22_0] at h_; exact h_) (by rfl))⟩
    try simp only [Act.put, List.setIfInBounds_toArray, List.set_cons_zero, List.set_cons_succ]
    refine wpAnyH_take (i := 3) (oi := ?oia3) (v := ?va3) ?hia3 (by kernel_rfl) (by kernel_rfl) (by kernel_rfl) ?hQa3 ?hya3 hHeld ?ha3
    case hia3 => (simp only [List.getElem?_toArray, List.getElem?_cons_succ, List.getElem?_cons_zero]; rfl)
    case hQa3 => exact fun _ _ _ h => h
    case hya3 => exact Or.inl ⟨by rfl, by intro w_ hSw; (try dsimp only at hSw); first | (go_simp; done) | (go_simp; with_reducible rfl)⟩
    try simp only [Act.put, List.setIfInBounds_toArray, List.set_cons_zero, List.set_cons_succ]
    refine wpAnyH_take (i := 4) (oi := ?oia4) (v := (.agg (arr (m7 p1)))) ?hia4 (by kernel_rfl) (by kernel_rfl) (by kernel_rfl) ?hQa4 ?hya4 hHeld ?ha4
    case hia4 => (simp only [List.getElem?_toArray, List.getElem?_cons_succ, List.getElem?_cons_zero]; rfl)
    case hQa4 => exact fun _ _ _ h => h
    case hya4 => exact Or.inl ⟨by rfl, fun w_ hSw => execLoad (addr := .pointer (some ⟨w.heap.size, 7, none⟩)) (v := .agg (arr (m7 p1))) rfl rfl (load7 (by have h_ := hSw.1; rw [y22_1] at h_; exact h_) (by rfl))⟩
    try simp only [Act.put, List.setIfInBounds_toArray, List.set_cons_zero, List.set_cons_succ]
    refine wpAnyH_take (i := 6) (oi := ?oia6) (v := ?va6) ?hia6 (by kernel_rfl) (by kernel_rfl) (by kernel_rfl) ?hQa6 ?hya6 hHeld ?ha6
    case hia6 => (simp only [List.getElem?_toArray, List.getElem?_cons_succ, List.getElem?_cons_zero]; rfl)
    case hQa6 => exact fun _ _ _ h => h
    case hya6 => exact Or.inl ⟨by rfl, by intro w_ hSw; (try dsimp only at hSw); first | (go_simp; done) | (go_simp; with_reducible rfl)⟩
    try simp only [Act.put, List.setIfInBounds_toArray, List.set_cons_zero, List.set_cons_succ]
    refine wpAnyH_take (i := 7) (oi := ?oia7) (v := (.agg (arr (m7 p2)))) ?hia7 (by kernel_rfl) (by kernel_rfl) (by kernel_rfl) ?hQa7 ?hya7 hHeld ?ha7
    case hia7 => (simp only [List.getElem?_toArray, List.getElem?_cons_succ, List.getElem?_cons_zero]; rfl)
    case hQa7 => exact fun _ _ _ h => h
    case hya7 => exact Or.inl ⟨by rfl, fun w_ hSw => execLoad (addr := .pointer (some ⟨w.heap.size, 14, none⟩)) (v := .agg (arr (m7 p2))) rfl rfl (load7 (by have h_ := hSw.1; rw [y22_2] at h_; exact h_) (by rfl))⟩
    try simp only [Act.put, List.setIfInBounds_toArray, List.set_cons_zero, List.set_cons_succ]
    refine wpAnyH_ready (rs := [2]) (by kernel_rfl) (by simp) ?_
    refine AllReadyH.cons (o := ?ocb2) ?hcb2 (fun K hK => ?hkb2) AllReadyH.nil
    case hcb2 => (simp only [List.getElem?_toArray, List.getElem?_cons_succ, List.getElem?_cons_zero]; rfl)
    go_simp
    go_at_call 40
    refine (l12Part_walk p0 _).mono ?_
    rintro e w_0 ⟨v_0, rfl, ho, hb0⟩
    obtain ⟨A_0, c_0, e_0⟩ := Kd.R_slice ho
    subst e_0
    obtain ⟨_, hl0, hC0⟩ := Kd.R_reads' ho
    clear ho
    try dsimp only
    refine hK.out _ _ ⟨(hb0.block _ (lt_of_block hHeld.1)).trans hHeld.1, below_step hHeld.2 hb0⟩ (fun hHeld => ?_)
    clear hK K
    try simp only [Act.put, List.setIfInBounds_toArray, List.set_cons_zero, List.set_cons_succ]
    refine wpAnyH_ready (rs := [5]) (by kernel_rfl) (by simp) ?_
    refine AllReadyH.cons (o := ?ocb5) ?hcb5 (fun K hK => ?hkb5) AllReadyH.nil
    case hcb5 => (simp only [List.getElem?_toArray, List.getElem?_cons_succ, List.getElem?_cons_zero]; rfl)
    go_simp
    go_at_call 40
    refine (l12Part_walk p1 _).mono ?_
    rintro e w_1 ⟨v_1, rfl, ho, hb1⟩
    obtain ⟨A_1, c_1, e_1⟩ := Kd.R_slice ho
    subst e_1
    obtain ⟨_, hl1, hC1⟩ := Kd.R_reads' ho
    clear ho
    try dsimp only
    refine hK.out _ _ ⟨(hb1.block _ (lt_of_block hHeld.1)).trans hHeld.1, below_step hHeld.2 hb1⟩ (fun hHeld => ?_)
    clear hK K
    try simp only [Act.put, List.setIfInBounds_toArray, List.set_cons_zero, List.set_cons_succ]
    refine wpAnyH_ready (rs := [8]) (by kernel_rfl) (by simp) ?_
    refine AllReadyH.cons (o := ?ocb8) ?hcb8 (fun K hK => ?hkb8) AllReadyH.nil
    case hcb8 => (simp only [List.getElem?_toArray, List.getElem?_cons_succ, List.getElem?_cons_zero]; rfl)
    go_simp
    go_at_call 40
    refine (l12Part_walk p2 _).mono ?_
    rintro e w_2 ⟨v_2, rfl, ho, hb2⟩
    obtain ⟨A_2, c_2, e_2⟩ := Kd.R_slice ho
    subst e_2
    obtain ⟨_, hl2, hC2⟩ := Kd.R_reads' ho
    clear ho
    try dsimp only
    refine hK.out _ _ ⟨(hb2.block _ (lt_of_block hHeld.1)).trans hHeld.1, below_step hHeld.2 hb2⟩ (fun hHeld => ?_)
    clear hK K
    try simp only [Act.put, List.setIfInBounds_toArray, List.set_cons_zero, List.set_cons_succ]
    refine wpAnyH_take (i := 9) (oi := ?oib9) (v := ?vb9) ?hib9 (by kernel_rfl) (by kernel_rfl) (by kernel_rfl) ?hQb9 ?hyb9 hHeld ?hb9
    case hib9 => (simp only [List.getElem?_toArray, List.getElem?_cons_succ, List.getElem?_cons_zero]; rfl)
    case hQb9 => exact fun _ _ _ h => h
    case hyb9 => exact Or.inl ⟨by rfl, by intro w_ hSw; (try dsimp only at hSw); first | (go_simp; done) | (go_simp; with_reducible rfl)⟩
    try simp only [Act.put, List.setIfInBounds_toArray, List.set_cons_zero, List.set_cons_succ]
    refine wpAnyH_take (i := 10) (oi := ?oib10) (v := ?vb10) ?hib10 (by kernel_rfl) (by kernel_rfl) (by kernel_rfl) ?hQb10 ?hyb10 hHeld ?hb10
    case hib10 => (simp only [List.getElem?_toArray, List.getElem?_cons_succ, List.getElem?_cons_zero]; rfl)
    case hQb10 => exact fun _ _ _ h => h
    case hyb10 => exact Or.inl ⟨by rfl, by intro w_ hSw; (try dsimp only at hSw); first | (go_simp; done) | (go_simp; with_reducible rfl)⟩
    try simp only [Act.put, List.setIfInBounds_toArray, List.set_cons_zero, List.set_cons_succ]
    refine wpAnyH_take (i := 11) (oi := ?oib11) (v := ?vb11) ?hib11 (by kernel_rfl) (by kernel_rfl) (by kernel_rfl) ?hQb11 ?hyb11 hHeld ?hb11
    case hib11 => (simp only [List.getElem?_toArray, List.getElem?_cons_succ, List.getElem?_cons_zero]; rfl)
    case hQb11 => exact fun _ _ _ h => h
    case hyb11 => exact Or.inl ⟨by rfl, by intro w_ hSw; (try dsimp only at hSw); first | (go_simp; done) | (go_simp; with_reducible rfl)⟩
    try simp only [Act.put, List.setIfInBounds_toArray, List.set_cons_zero, List.set_cons_succ]
    refine wpAnyH_take (i := 12) (oi := ?oib12) (v := ?vb12) ?hib12 (by kernel_rfl) (by kernel_rfl) (by kernel_rfl) ?hQb12 ?hyb12 hHeld ?hb12
    case hib12 => (simp only [List.getElem?_toArray, List.getElem?_cons_succ, List.getElem?_cons_zero]; rfl)
    case hQb12 => exact fun _ _ _ h => h
    case hyb12 => exact Or.inl ⟨by rfl, by intro w_ hSw; (try dsimp only at hSw); first | (go_simp; done) | (go_simp; with_reducible rfl)⟩
    try simp only [Act.put, List.setIfInBounds_toArray, List.set_cons_zero, List.set_cons_succ]
    refine wpAnyH_done (by kernel_rfl) ?_ _
    go_wp2
    refine bodyPost_ret (v := .tuple #[.slice A_0 (tw p0).length c_0, .slice A_1 (tw p1).length c_1, .slice A_2 (tw p2).length c_2, .bool true]) ?_ rfl ?_
    · exact results_list (rs := [.tmp 2, .tmp 3, .tmp 4, .tmp 5]) rfl (by simp) (.tmp (.tmp (.tmp (.tmp .nil))))
    · exact ⟨A_0, c_0, A_1, c_1, A_2, c_2, rfl, ⟨Kd.C_below (Kd.C_below hC0 hb1) hb2, hl0⟩, ⟨Kd.C_below hC1 hb2, hl1⟩, ⟨hC2, hl2⟩, below_step B2.out hHeld.2⟩
  | false =>
    go_enter Try.func17, Try.ntmps17
    go_wp2_with (first
      | ((with_reducible refine gate_dst (N := 6) rfl ?_); refine load_row_event rfl 25 (.tmp 1) rfl w.heap.size rfl 25 (arr (y22 p0 p1 p2 cn)) _ Z1.out hu rfl hi ?_)
      | (go_at_call 37; (refine (l12Good_walk k p0 p1 p2 cn false _ H.out).mono ?_); rintro e w2 ⟨rfl, hb⟩; have B2 := Aside0.mk (below_step B1.out hb); clear hb))
    refine bodyPost_ret (results_list (rs := [.tmp 2, .tmp 3, .tmp 4, .tmp 5]) rfl (by simp) (.tmp (.tmp (.tmp (.tmp .nil))))) rfl ?_
    exact ⟨_, _, _, _, _, _, rfl, ⟨C_none _ _, Nat.zero_le _⟩, ⟨C_none _ _, Nat.zero_le _⟩, ⟨C_none _ _, Nat.zero_le _⟩, by repeat (with_reducible first | exact B2.out | apply below_alloc | apply pw_below_drewN | apply below_drew1)⟩
set_option maxHeartbeats 16000000 in
set_option maxRecDepth 100000 in
theorem implPartsOf_walk (k : Nat) (p0 p1 p2 : Nat → Int) (cn : Int) (r : Bool) (w : World) (h : partsF k p0 p1 p2 cn = some r) :
    Calls Try.prog 18 #[.agg (arr (y22 p0 p1 p2 cn))] w fun e w' => ∃ (A0 : Option Addr) (c0 : Nat) (A1 : Option Addr) (c1 : Nat) (A2 : Option Addr) (c2 : Nat) (s1 s2 : Nat), e = .returned (.tuple #[.slice A0 (outL r p0).length c0, .slice A1 (outL r p1).length c1, .slice A2 (outL r p2).length c2, .bool r]) ∧ s1 ≤ s2 ∧ Kd.R (Kd.int .i64) 3 w' w.heap.size (fun k_ => k_ < s1) (.slice A0 (outL r p0).length c0) (outL r p0) ∧ Kd.R (Kd.int .i64) 3 w' w.heap.size (fun k_ => s1 ≤ k_ ∧ k_ < s2) (.slice A1 (outL r p1).length c1) (outL r p1) ∧ Kd.R (Kd.int .i64) 3 w' w.heap.size (fun k_ => s2 ≤ k_) (.slice A2 (outL r p2).length c2) (outL r p2) ∧ Below w.heap.size w w' := by
  have hu := Try.underlying25
  have hi : (Try.prog.info? 25).map (·.size) = some 22 := by kernel_rfl
  have hi62 : (Try.prog.info? 62).map (·.size) = some 3 := by kernel_rfl
  have H := Aside0.mk h
  have Z1 := Aside0.mk (blk_new w (.cells (arr (y22 p0 p1 p2 cn)) 25))
  have B1 := Aside0.mk (below_alloc (Below.refl w.heap.size w) (.cells (arr (y22 p0 p1 p2 cn)) 25))
  clear h
  cases r with
  | true =>
    go_enter Try.func18, Try.ntmps18
    go_upto_region 4 with (first
      | ((with_reducible refine gate_dst (N := 9) rfl ?_); refine load_row_event rfl 25 (.tmp 1) rfl w.heap.size rfl 25 (arr (y22 p0 p1 p2 cn)) _ Z1.out hu rfl hi ?_)
      | (go_at_call 39; (refine (partsOf_rows k p0 p1 p2 cn true _ H.out).mono ?_); rintro e w2 ⟨A0, c0, A1, c1, A2, c2, s1, s2, rfl, hs12, hr0, hr1, hr2, hb⟩; have B2 := Aside0.mk (below_step B1.out hb); have U0 := Aside0.mk (Kd.R_lower (base' := w.heap.size) hr0 B1.out.size); have U1 := Aside0.mk (Kd.R_lower (base' := w.heap.size) hr1 B1.out.size); have U2 := Aside0.mk (Kd.R_lower (base' := w.heap.size) hr2 B1.out.size); clear hb hr0 hr1 hr2)
      | ((with_reducible refine gate_store (t := 62) (p := 6) rfl ?_); refine store_row_event rfl rfl 62 (.tmp 6) (.tmp 11) rfl w2.heap.size #[.slice A0 (tw p0).length c0, .slice A1 (tw p1).length c1, .slice A2 (tw p2).length c2] rfl rfl 62 _ (blk_new w2 _) hi62 rfl (by kernel_rfl) ?_; intro w3 hh ho; have Y3 := Aside0.mk hh; have O3 := Aside0.mk (ho.below (below_alloc (Below.refl w2.heap.size w2) _) (Nat.le_refl _)); have B3 := Aside0.mk (below_step B2.out O3.out); clear hh ho))
    obtain ⟨q0, q1, q2⟩ := cells3 Y3.out
    go_wp2
    repeat (go_quiet (fail); try go_wp2)
    refine bodyPost_ret (results_list (rs := [.tmp 2, .tmp 3, .tmp 4, .tmp 5]) rfl (by simp) (.tmp (.tmp (.tmp (.tmp .nil))))) rfl ?_
    exact ⟨A0, c0, A1, c1, A2, c2, s1, s2, rfl, hs12, by (with_reducible repeat (first | apply Kd.R_alloc | apply Kd.R_drewN | apply Kd.R_drew)); exact Kd.R_below U0.out O3.out, by (with_reducible repeat (first | apply Kd.R_alloc | apply Kd.R_drewN | apply Kd.R_drew)); exact Kd.R_below U1.out O3.out, by (with_reducible repeat (first | apply Kd.R_alloc | apply Kd.R_drewN | apply Kd.R_drew)); exact Kd.R_below U2.out O3.out, by repeat (with_reducible first | exact B3.out | apply below_alloc | apply pw_below_drewN | apply below_drew1)⟩
  | false =>
    go_enter Try.func18, Try.ntmps18
    go_wp2_with (first
      | ((with_reducible refine gate_dst (N := 9) rfl ?_); refine load_row_event rfl 25 (.tmp 1) rfl w.heap.size rfl 25 (arr (y22 p0 p1 p2 cn)) _ Z1.out hu rfl hi ?_)
      | (go_at_call 39; (refine (partsOf_rows k p0 p1 p2 cn false _ H.out).mono ?_); rintro e w2 ⟨A0, c0, A1, c1, A2, c2, s1, s2, rfl, hs12, hr0, hr1, hr2, hb⟩; have B2 := Aside0.mk (below_step B1.out hb); have U0 := Aside0.mk (Kd.R_lower (base' := w.heap.size) hr0 B1.out.size); have U1 := Aside0.mk (Kd.R_lower (base' := w.heap.size) hr1 B1.out.size); have U2 := Aside0.mk (Kd.R_lower (base' := w.heap.size) hr2 B1.out.size); clear hb hr0 hr1 hr2)
      | ((with_reducible refine gate_store (t := 62) (p := 6) rfl ?_); refine store_row_event rfl rfl 62 (.tmp 6) (.tmp 11) rfl w2.heap.size #[.slice A0 (tw p0).length c0, .slice A1 (tw p1).length c1, .slice A2 (tw p2).length c2] rfl rfl 62 _ (blk_new w2 _) hi62 rfl (by kernel_rfl) ?_; intro w3 hh ho; have Y3 := Aside0.mk hh; have O3 := Aside0.mk (ho.below (below_alloc (Below.refl w2.heap.size w2) _) (Nat.le_refl _)); have B3 := Aside0.mk (below_step B2.out O3.out); clear hh ho))
    refine bodyPost_ret (results_list (rs := [.tmp 2, .tmp 3, .tmp 4, .tmp 5]) rfl (by simp) (.tmp (.tmp (.tmp (.tmp .nil))))) rfl ?_
    exact ⟨none, 0, none, 0, none, 0, 0, 0, rfl, Nat.le_refl _, Kd.R_nil _ _ _ _ _, Kd.R_nil _ _ _ _ _, Kd.R_nil _ _ _ _ _, by repeat (with_reducible first | exact B3.out | apply below_alloc | apply pw_below_drewN | apply below_drew1)⟩

end Go.Proofs.Ythokeoocdkaffaa.Xq
