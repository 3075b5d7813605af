/- The yard of parts: impl.parts.yard. -/
import Derived.Test.YthokeoocdkaffaaXl0
import Derived.Test.YthokeoocdkaffaaXlHarr7
import Derived.OneCell
import Derived.BigQuiet
import Derived.Deep.QuietTactic
import Derived.RegionTactic
import Derived.BigRegion
import Derived.Deep.RegionHeld3
namespace Go.Proofs.Ythokeoocdkaffaa.Xl
open Go.RowKit Go.Proofs.YthokeoocdkaffaaW.PrintWords Go.Proofs.YthokeoocdkaffaaW.PrintLast Go.Proofs.YthokeoocdkaffaaW.PrintMore
attribute [local go_sem] max2_int min2_int max_two min_two max_three min_three max_four min_four
set_option linter.unusedVariables false
set_option linter.unusedSimpArgs false
theorem cells22 {w : World} {b e : Nat} {v0 v1 v2 v3 v4 v5 v6 v7 v8 v9 v10 v11 v12 v13 v14 v15 v16 v17 v18 v19 v20 v21 : Value} (h : w.heap[b]? = some (.cells #[v0, v1, v2, v3, v4, v5, v6, v7, v8, v9, v10, v11, v12, v13, v14, v15, v16, v17, v18, v19, v20, v21] e (0, 0))) : w.cell? ⟨b, 0, none⟩ = some v0 ∧ w.cell? ⟨b, 1, none⟩ = some v1 ∧ w.cell? ⟨b, 2, none⟩ = some v2 ∧ w.cell? ⟨b, 3, none⟩ = some v3 ∧ w.cell? ⟨b, 4, none⟩ = some v4 ∧ w.cell? ⟨b, 5, none⟩ = some v5 ∧ w.cell? ⟨b, 6, none⟩ = some v6 ∧ w.cell? ⟨b, 7, none⟩ = some v7 ∧ w.cell? ⟨b, 8, none⟩ = some v8 ∧ w.cell? ⟨b, 9, none⟩ = some v9 ∧ w.cell? ⟨b, 10, none⟩ = some v10 ∧ w.cell? ⟨b, 11, none⟩ = some v11 ∧ w.cell? ⟨b, 12, none⟩ = some v12 ∧ w.cell? ⟨b, 13, none⟩ = some v13 ∧ w.cell? ⟨b, 14, none⟩ = some v14 ∧ w.cell? ⟨b, 15, none⟩ = some v15 ∧ w.cell? ⟨b, 16, none⟩ = some v16 ∧ w.cell? ⟨b, 17, none⟩ = some v17 ∧ w.cell? ⟨b, 18, none⟩ = some v18 ∧ w.cell? ⟨b, 19, none⟩ = some v19 ∧ w.cell? ⟨b, 20, none⟩ = some v20 ∧ w.cell? ⟨b, 21, none⟩ = some v21 := by
  refine ⟨?_, ?_, ?_, ?_, ?_, ?_, ?_, ?_, ?_, ?_, ?_, ?_, ?_, ?_, ?_, ?_, ?_, ?_, ?_, ?_, ?_, ?_⟩ <;> rw [blk_cell h] <;> rfl
theorem cells3 {w : World} {b e : Nat} {v0 v1 v2 : Value} (h : w.heap[b]? = some (.cells #[v0, v1, v2] e (0, 0))) : w.cell? ⟨b, 0, none⟩ = some v0 ∧ w.cell? ⟨b, 1, none⟩ = some v1 ∧ w.cell? ⟨b, 2, none⟩ = some v2 := by
  refine ⟨?_, ?_, ?_⟩ <;> rw [blk_cell h] <;> rfl
/-- The first seven numbers, behind them zeros. -/
theorem pad7 (l : List Int) : l.take 7 ++ List.replicate (7 - l.length) 0 = m7 fun j => rd l (j : Int) := by
  have h : ∀ (j : Nat), rd l (j : Int) = l.getD j 0 := fun j => by unfold rd; rw [Int.toNat_natCast]
  unfold m7
  simp only [h]
  rcases l with _ | ⟨x0, _ | ⟨x1, _ | ⟨x2, _ | ⟨x3, _ | ⟨x4, _ | ⟨x5, _ | ⟨x6, t⟩⟩⟩⟩⟩⟩⟩ <;> simp [List.replicate]
/-- What copy does with the first seven numbers of a row at seven cells that are zeros. -/
theorem copy7 (A0 : Option Addr) (c0 : Nat) (l : List Int) (b e o : Nat) (L R : List Int) (w : World) (hr : Kd.C (Kd.int .i64) w A0 l.length l) (h : w.heap[b]? = some (.cells (arr (L ++ List.replicate 7 0 ++ R)) e (0, 0))) (ho : L.length = o) :
    ∃ w', (∀ ty, (Builtin.copy_ #[22, 22] ty #[.slice (some ⟨b, o, none⟩) 7 7, .slice A0 l.length c0]).run Try.prog w = .ok (goInt (l.take 7).length) w') ∧ w'.heap[b]? = some (.cells (arr (L ++ (m7 fun j => rd l (j : Int)) ++ R)) e (0, 0)) ∧ (∀ k, k ≠ b → w'.heap[k]? = w.heap[k]?) ∧ w'.os = w.os ∧ w'.tape = w.tape ∧ w'.output = w.output ∧ w'.heap.size = w.heap.size := by
  have hu := Try.underlying22
  have hi : (Try.prog.info? 3).map (·.size) = some 1 := by kernel_rfl
  have hsz : (arr (L ++ List.replicate 7 0 ++ R)).size = o + 7 + R.length := by simp only [arr, List.size_toArray, List.length_map, List.length_append, List.length_replicate, ho]
  rcases Nat.eq_zero_or_pos l.length with h0 | h0
  · obtain rfl := List.length_eq_zero_iff.1 h0
    refine ⟨w, fun ty => ?_, ?_, fun _ _ => rfl, rfl, rfl, rfl, rfl⟩
    · exact run_copy_none w _ _ ty _ _ _ _ _ _ _ hu hi (by simp [Nat.min])
    · rw [h, ← pad7 []]; rfl
  · obtain ⟨ad, hA, _⟩ := Kd.at_int hr 0 (by omega) (by omega)
    subst hA
    have hlen : ((l.take 7).map (Value.int .i64)).length = Nat.min l.length 7 := by rw [List.length_map, List.length_take]; exact Nat.min_comm _ _
    have hle : ((l.take 7).map (Value.int .i64)).length ≤ 7 := by rw [hlen]; exact Nat.min_le_right _ _
    obtain ⟨cur', e1, e2, e3⟩ := setCells_row ((l.take 7).map (Value.int .i64)) o w _ h (by rw [hsz]; omega)
    obtain ⟨s1, s2, s3, s4⟩ := setCells_same b ((l.take 7).map (Value.int .i64)) o w
    refine ⟨w.setCells b o ((l.take 7).map (Value.int .i64)), fun ty => ?_, ?_, fun k hk => setCells_far _ _ _ hk, s1, s2, s3, s4⟩
    · have hh := run_copy_cells (P := Try.prog) w 22 22 ty 3 b o 7 7 ad l.length c0 ((l.take 7).map (Value.int .i64)) hu hi hlen (fun j v hj => by
        rw [List.getElem?_map] at hj
        obtain ⟨x, hx, rfl⟩ := Option.map_eq_some_iff.1 hj
        have hj7 : j < (l.take 7).length := by rcases Nat.lt_or_ge j (l.take 7).length with h_ | h_; exact h_; rw [List.getElem?_eq_none h_] at hx; cases hx
        rw [List.length_take] at hj7
        obtain ⟨ad', hA', hc⟩ := Kd.at_int hr (j : Int) (by omega) (by omega)
        obtain rfl := Option.some.inj hA'
        rw [Int.toNat_natCast] at hc
        rw [hc]
        rw [List.getElem?_take_of_lt (by omega)] at hx
        congr 2
        unfold rd
        rw [Int.toNat_natCast]
        simp [hx]) (fun j hj => by rw [blk_cell h, Array.getElem?_eq_getElem (show o + j < _ from by rw [hsz]; omega)]; rfl) (fun j hj => blk_frozen h _) (fun v hv => by
        obtain ⟨x, _, rfl⟩ := List.mem_map.1 hv
        rfl)
      rw [hh, List.length_map]
    · rw [e1]
      congr 2
      apply Array.toList_inj.1
      rw [e3]
      have ht : (l.take 7).length = min 7 l.length := List.length_take
      have : (arr (L ++ List.replicate 7 0 ++ R)).toList = L.map (Value.int .i64) ++ List.replicate 7 (Value.int .i64 0) ++ R.map (Value.int .i64) := by simp [arr]
      rw [this, ← pad7 l]
      have hL : (L.map (Value.int .i64)).length = o := by rw [List.length_map]; exact ho
      rw [List.append_assoc (L.map _), List.take_left' hL, hlen, ← List.drop_drop, List.drop_left' hL]
      have hm : Nat.min l.length 7 ≤ (List.replicate 7 (Value.int .i64 0)).length := by rw [List.length_replicate]; exact Nat.min_le_right _ _
      rw [List.drop_append_of_le_length hm, List.drop_replicate]
      have h7 : 7 - Nat.min l.length 7 = 7 - l.length := by have : Nat.min l.length 7 = min l.length 7 := rfl; omega
      rw [h7]
      simp [arr]
/-- The yard of parts: the first seven numbers of each, behind them zeros. -/
def impl_parts_yard.f (l0 l1 l2 : List Int) (a1 : Int) : Option (Int × Int × Int × Int × Int × Int × Int × Int × Int × Int × Int × Int × Int × Int × Int × Int × Int × Int × Int × Int × Int × Int) := some (rd l0 0, rd l0 1, rd l0 2, rd l0 3, rd l0 4, rd l0 5, rd l0 6, rd l1 0, rd l1 1, rd l1 2, rd l1 3, rd l1 4, rd l1 5, rd l1 6, rd l2 0, rd l2 1, rd l2 2, rd l2 3, rd l2 4, rd l2 5, rd l2 6, a1)
section
variable {ops : Array Oper} {rest : List Oper} {o : Oper} {a : Act} {Q : Exit → Act → World → Prop} {Kc : Act → World → Prop}
theorem copy7_step {W : World} (hw : Region.wanted o (yielded ops a.tmps) = true) (x y : Operand) (ho : o.op = .call { callee := .builtin .copy, args := #[x, y], argTypes := #[22, 22] }) (b off : Nat) (A0 : Option Addr) (c0 : Nat) (l : List Int)
    (hx : a.eval x = .slice (some ⟨b, off, none⟩) 7 7) (hy : a.eval y = .slice A0 l.length c0) (e : Nat) (L R : List Int) (hr : Kd.C (Kd.int .i64) W A0 l.length l) (hh : W.heap[b]? = some (.cells (arr (L ++ List.replicate 7 0 ++ R)) e (0, 0))) (hl : L.length = off)
    (h : ∀ w2, w2.heap[b]? = some (.cells (arr (L ++ (m7 fun j => rd l (j : Int)) ++ R)) e (0, 0)) → Only W w2 b → Kc (a.put o.dst (goInt (l.take 7).length)) w2) : if Region.wanted o (yielded ops a.tmps) = true then Oper.wp Try.prog o a W Kc Q else Kc (a.put o.dst undef) W := by
  obtain ⟨w2, h1, h2, h3, h4, h5, h6, h7⟩ := copy7 A0 c0 l b e off L R W hr hh hl
  rw [if_pos hw]
  unfold Oper.wp execOp
  simp only [ho, resolve, invoke, builtin, Sem.run_bind, Sem.run_pure, Result.andThen_ok, List.map_toArray, List.map_cons, List.map_nil, hx, hy, h1]
  exact h w2 h2 ⟨h4, h5, h6, h7, h3⟩
end
set_option maxHeartbeats 16000000 in
set_option maxRecDepth 100000 in
theorem impl_parts_yard_walk (A0 : Option Addr) (c0 : Nat) (l0 : List Int) (A1 : Option Addr) (c1 : Nat) (l1 : List Int) (A2 : Option Addr) (c2 : Nat) (l2 : List Int) (a1 : Int) (w : World) (hr0 : Kd.C (Kd.int .i64) w A0 l0.length l0) (hr1 : Kd.C (Kd.int .i64) w A1 l1.length l1) (hr2 : Kd.C (Kd.int .i64) w A2 l2.length l2) :
    Calls Try.prog 35 #[.agg #[.slice A0 l0.length c0, .slice A1 l1.length c1, .slice A2 l2.length c2], .int .i64 a1] w fun e w' => e = .returned (.agg #[.int .i64 (rd l0 0), .int .i64 (rd l0 1), .int .i64 (rd l0 2), .int .i64 (rd l0 3), .int .i64 (rd l0 4), .int .i64 (rd l0 5), .int .i64 (rd l0 6), .int .i64 (rd l1 0), .int .i64 (rd l1 1), .int .i64 (rd l1 2), .int .i64 (rd l1 3), .int .i64 (rd l1 4), .int .i64 (rd l1 5), .int .i64 (rd l1 6), .int .i64 (rd l2 0), .int .i64 (rd l2 1), .int .i64 (rd l2 2), .int .i64 (rd l2 3), .int .i64 (rd l2 4), .int .i64 (rd l2 5), .int .i64 (rd l2 6), .int .i64 a1]) ∧ Below w.heap.size w w' := by
  have hu := Try.underlying25
  have hi : (Try.prog.info? 25).map (·.size) = some 22 := by kernel_rfl
  have HR0 := Aside0.mk hr0
  have HR1 := Aside0.mk hr1
  have HR2 := Aside0.mk hr2
  have z1 := blk_new w (.cells #[.slice A0 l0.length c0, .slice A1 l1.length c1, .slice A2 l2.length c2] 62)
  have z2 := blk_new (w.alloc (.cells #[.slice A0 l0.length c0, .slice A1 l1.length c1, .slice A2 l2.length c2] 62)) (.cells #[.int .i64 0, .int .i64 0, .int .i64 0, .int .i64 0, .int .i64 0, .int .i64 0, .int .i64 0, .int .i64 0, .int .i64 0, .int .i64 0, .int .i64 0, .int .i64 0, .int .i64 0, .int .i64 0, .int .i64 0, .int .i64 0, .int .i64 0, .int .i64 0, .int .i64 0, .int .i64 0, .int .i64 0, .int .i64 0] 25)
  have z3 := blk_new ((w.alloc (.cells #[.slice A0 l0.length c0, .slice A1 l1.length c1, .slice A2 l2.length c2] 62)).alloc (.cells #[.int .i64 0, .int .i64 0, .int .i64 0, .int .i64 0, .int .i64 0, .int .i64 0, .int .i64 0, .int .i64 0, .int .i64 0, .int .i64 0, .int .i64 0, .int .i64 0, .int .i64 0, .int .i64 0, .int .i64 0, .int .i64 0, .int .i64 0, .int .i64 0, .int .i64 0, .int .i64 0, .int .i64 0, .int .i64 0] 25)) (.cells #[.int .i64 0, .int .i64 0, .int .i64 0, .int .i64 0, .int .i64 0, .int .i64 0, .int .i64 0, .int .i64 0, .int .i64 0, .int .i64 0, .int .i64 0, .int .i64 0, .int .i64 0, .int .i64 0, .int .i64 0, .int .i64 0, .int .i64 0, .int .i64 0, .int .i64 0, .int .i64 0, .int .i64 0, .int .i64 0] 25)
  rw [World.size_alloc, World.size_alloc] at z3
  rw [World.size_alloc] at z2
  have Z1 := Aside0.mk (blk_alloc (blk_alloc z1 (.cells #[.int .i64 0, .int .i64 0, .int .i64 0, .int .i64 0, .int .i64 0, .int .i64 0, .int .i64 0, .int .i64 0, .int .i64 0, .int .i64 0, .int .i64 0, .int .i64 0, .int .i64 0, .int .i64 0, .int .i64 0, .int .i64 0, .int .i64 0, .int .i64 0, .int .i64 0, .int .i64 0, .int .i64 0, .int .i64 0] 25)) (.cells #[.int .i64 0, .int .i64 0, .int .i64 0, .int .i64 0, .int .i64 0, .int .i64 0, .int .i64 0, .int .i64 0, .int .i64 0, .int .i64 0, .int .i64 0, .int .i64 0, .int .i64 0, .int .i64 0, .int .i64 0, .int .i64 0, .int .i64 0, .int .i64 0, .int .i64 0, .int .i64 0, .int .i64 0, .int .i64 0] 25))
  have Z2 := Aside0.mk (blk_alloc z2 (.cells #[.int .i64 0, .int .i64 0, .int .i64 0, .int .i64 0, .int .i64 0, .int .i64 0, .int .i64 0, .int .i64 0, .int .i64 0, .int .i64 0, .int .i64 0, .int .i64 0, .int .i64 0, .int .i64 0, .int .i64 0, .int .i64 0, .int .i64 0, .int .i64 0, .int .i64 0, .int .i64 0, .int .i64 0, .int .i64 0] 25))
  have Z3 := Aside0.mk z3
  have HB := Aside0.mk (below_alloc (below_alloc (below_alloc (Below.refl w.heap.size w) (.cells #[.slice A0 l0.length c0, .slice A1 l1.length c1, .slice A2 l2.length c2] 62)) (.cells #[.int .i64 0, .int .i64 0, .int .i64 0, .int .i64 0, .int .i64 0, .int .i64 0, .int .i64 0, .int .i64 0, .int .i64 0, .int .i64 0, .int .i64 0, .int .i64 0, .int .i64 0, .int .i64 0, .int .i64 0, .int .i64 0, .int .i64 0, .int .i64 0, .int .i64 0, .int .i64 0, .int .i64 0, .int .i64 0] 25)) (.cells #[.int .i64 0, .int .i64 0, .int .i64 0, .int .i64 0, .int .i64 0, .int .i64 0, .int .i64 0, .int .i64 0, .int .i64 0, .int .i64 0, .int .i64 0, .int .i64 0, .int .i64 0, .int .i64 0, .int .i64 0, .int .i64 0, .int .i64 0, .int .i64 0, .int .i64 0, .int .i64 0, .int .i64 0, .int .i64 0] 25))
  clear z1 z2 z3 hr0 hr1 hr2
  go_enter Try.func35, Try.ntmps35
  go_wp2_with (first
    | ((with_reducible refine gate_store (t := 25) (p := 5) rfl ?_); refine store_row_event rfl rfl 25 (.tmp 5) (.tmp 7) rfl (w.heap.size + 1 + 1) #[.int .i64 0, .int .i64 0, .int .i64 0, .int .i64 0, .int .i64 0, .int .i64 0, .int .i64 0, .int .i64 0, .int .i64 0, .int .i64 0, .int .i64 0, .int .i64 0, .int .i64 0, .int .i64 0, .int .i64 0, .int .i64 0, .int .i64 0, .int .i64 0, .int .i64 0, .int .i64 0, .int .i64 0, .int .i64 a1] rfl rfl 25 _ Z3.out hi rfl (by kernel_rfl) ?_; intro w3 hh3 ho3; have Y3 := Aside0.mk hh3; have P3 := Aside0.mk (ho3.blk (by omega) Z1.out); have R3 := Aside0.mk (ho3.blk (by omega) Z2.out); have B3 := Aside0.mk (ho3.below HB.out (by omega)); clear hh3 ho3)
    | fail)
  obtain ⟨q0, q1, q2⟩ := cells3 P3.out
  have YE : arr ([] ++ List.replicate 7 0 ++ (List.replicate 7 0 ++ List.replicate 7 0 ++ [a1])) = #[.int .i64 0, .int .i64 0, .int .i64 0, .int .i64 0, .int .i64 0, .int .i64 0, .int .i64 0, .int .i64 0, .int .i64 0, .int .i64 0, .int .i64 0, .int .i64 0, .int .i64 0, .int .i64 0, .int .i64 0, .int .i64 0, .int .i64 0, .int .i64 0, .int .i64 0, .int .i64 0, .int .i64 0, .int .i64 a1] := by simp [arr, List.replicate]
  have Y3' := Y3.out
  rw [← YE] at Y3'
  replace Y3 := Aside0.mk Y3'
  clear YE Y3'
  go_region_held3 (fun W => W.cell? ⟨w.heap.size, 0, none⟩ = some (.slice A0 l0.length c0)) (first | exact q0 | assumption | go_keep)
    ((refine copy7_step (by rfl) (.tmp 9) (.tmp 11) (by rfl) (w.heap.size + 1 + 1) 0 A0 c0 l0 (by rfl) (by rfl) 25 ([]) (List.replicate 7 0 ++ List.replicate 7 0 ++ [a1]) ?_ (by have h_ := Y3.out; (try simp only [List.append_assoc] at h_); (try simp only [List.append_assoc]); exact h_) (by rfl) ?_; (repeat (first | exact (Kd.C_below HR0.out B3.out) | (with_reducible refine Kd.C_drewN ?_ _) | (with_reducible refine Kd.C_drew ?_))); intro w4 hh ho; have Y4 := Aside0.mk (by simpa only [List.append_assoc] using hh); have P4 := Aside0.mk (ho.blk (by omega) P3.out); have R4 := Aside0.mk (ho.blk (by omega) R3.out); have B4 := Aside0.mk (ho.below (below_drew B3.out) (by omega)); obtain ⟨u0, u1, u2⟩ := cells3 P4.out; clear hh ho))
  clear q0 q1 q2
  obtain ⟨q0, q1, q2⟩ := cells3 P4.out
  clear u0 u1 u2 Y3 P3 R3 B3
  go_wp2_with (fail)
  go_region_held3 (fun W => W.cell? ⟨w.heap.size, 1, none⟩ = some (.slice A1 l1.length c1)) (first | exact q1 | assumption | go_keep)
    ((refine copy7_step (by rfl) (.tmp 14) (.tmp 16) (by rfl) (w.heap.size + 1 + 1) 7 A1 c1 l1 (by rfl) (by rfl) 25 ([] ++ (m7 fun j => rd l0 (j : Int))) (List.replicate 7 0 ++ [a1]) ?_ (by have h_ := Y4.out; (try simp only [List.append_assoc] at h_); (try simp only [List.append_assoc]); exact h_) (by rfl) ?_; (repeat (first | exact (Kd.C_below HR1.out B4.out) | (with_reducible refine Kd.C_drewN ?_ _) | (with_reducible refine Kd.C_drew ?_))); intro w5 hh ho; have Y5 := Aside0.mk (by simpa only [List.append_assoc] using hh); have P5 := Aside0.mk (ho.blk (by omega) P4.out); have R5 := Aside0.mk (ho.blk (by omega) R4.out); have B5 := Aside0.mk (ho.below (below_drew B4.out) (by omega)); obtain ⟨u0, u1, u2⟩ := cells3 P5.out; clear hh ho))
  clear q0 q1 q2
  obtain ⟨q0, q1, q2⟩ := cells3 P5.out
  clear u0 u1 u2 Y4 P4 R4 B4
  go_wp2_with (fail)
  go_region_held3 (fun W => W.cell? ⟨w.heap.size, 2, none⟩ = some (.slice A2 l2.length c2)) (first | exact q2 | assumption | go_keep)
    ((refine copy7_step (by rfl) (.tmp 19) (.tmp 21) (by rfl) (w.heap.size + 1 + 1) 14 A2 c2 l2 (by rfl) (by rfl) 25 ([] ++ (m7 fun j => rd l0 (j : Int)) ++ (m7 fun j => rd l1 (j : Int))) ([a1]) ?_ (by have h_ := Y5.out; (try simp only [List.append_assoc] at h_); (try simp only [List.append_assoc]); exact h_) (by rfl) ?_; (repeat (first | exact (Kd.C_below HR2.out B5.out) | (with_reducible refine Kd.C_drewN ?_ _) | (with_reducible refine Kd.C_drew ?_))); intro w6 hh ho; have Y6 := Aside0.mk (by simpa only [List.append_assoc] using hh); have P6 := Aside0.mk (ho.blk (by omega) P5.out); have R6 := Aside0.mk (ho.blk (by omega) R5.out); have B6 := Aside0.mk (ho.below (below_drew B5.out) (by omega)); obtain ⟨u0, u1, u2⟩ := cells3 P6.out; clear hh ho))
  clear q0 q1 q2
  obtain ⟨q0, q1, q2⟩ := cells3 P6.out
  clear u0 u1 u2 Y5 P5 R5 B5
  go_wp2_with (first
    | ((with_reducible refine gate_dst (N := 23) rfl ?_); refine load_row_event rfl 25 (.tmp 5) rfl (w.heap.size + 1 + 1) rfl 25 #[.int .i64 (rd l0 0), .int .i64 (rd l0 1), .int .i64 (rd l0 2), .int .i64 (rd l0 3), .int .i64 (rd l0 4), .int .i64 (rd l0 5), .int .i64 (rd l0 6), .int .i64 (rd l1 0), .int .i64 (rd l1 1), .int .i64 (rd l1 2), .int .i64 (rd l1 3), .int .i64 (rd l1 4), .int .i64 (rd l1 5), .int .i64 (rd l1 6), .int .i64 (rd l2 0), .int .i64 (rd l2 1), .int .i64 (rd l2 2), .int .i64 (rd l2 3), .int .i64 (rd l2 4), .int .i64 (rd l2 5), .int .i64 (rd l2 6), .int .i64 a1] _ Y6.out Try.underlying25 rfl hi ?_)
    | ((with_reducible refine gate_store (t := 25) (p := 4) rfl ?_); refine store_row_event rfl rfl 25 (.tmp 4) (.tmp 23) rfl (w.heap.size + 1) #[.int .i64 (rd l0 0), .int .i64 (rd l0 1), .int .i64 (rd l0 2), .int .i64 (rd l0 3), .int .i64 (rd l0 4), .int .i64 (rd l0 5), .int .i64 (rd l0 6), .int .i64 (rd l1 0), .int .i64 (rd l1 1), .int .i64 (rd l1 2), .int .i64 (rd l1 3), .int .i64 (rd l1 4), .int .i64 (rd l1 5), .int .i64 (rd l1 6), .int .i64 (rd l2 0), .int .i64 (rd l2 1), .int .i64 (rd l2 2), .int .i64 (rd l2 3), .int .i64 (rd l2 4), .int .i64 (rd l2 5), .int .i64 (rd l2 6), .int .i64 a1] rfl rfl 25 _ R6.out hi rfl (by kernel_rfl) ?_; intro w7 hh ho; have Y7 := Aside0.mk hh; have B7 := Aside0.mk (ho.below B6.out (by omega)); clear hh ho)
    | fail)
  refine bodyPost_ret (v := .agg #[.int .i64 (rd l0 0), .int .i64 (rd l0 1), .int .i64 (rd l0 2), .int .i64 (rd l0 3), .int .i64 (rd l0 4), .int .i64 (rd l0 5), .int .i64 (rd l0 6), .int .i64 (rd l1 0), .int .i64 (rd l1 1), .int .i64 (rd l1 2), .int .i64 (rd l1 3), .int .i64 (rd l1 4), .int .i64 (rd l1 5), .int .i64 (rd l1 6), .int .i64 (rd l2 0), .int .i64 (rd l2 1), .int .i64 (rd l2 2), .int .i64 (rd l2 3), .int .i64 (rd l2 4), .int .i64 (rd l2 5), .int .i64 (rd l2 6), .int .i64 a1]) ?_ rfl ?_
  · exact results_single (r := .cell 4 25) rfl (.cell (w.heap.size + 1) 25 #[.int .i64 (rd l0 0), .int .i64 (rd l0 1), .int .i64 (rd l0 2), .int .i64 (rd l0 3), .int .i64 (rd l0 4), .int .i64 (rd l0 5), .int .i64 (rd l0 6), .int .i64 (rd l1 0), .int .i64 (rd l1 1), .int .i64 (rd l1 2), .int .i64 (rd l1 3), .int .i64 (rd l1 4), .int .i64 (rd l1 5), .int .i64 (rd l1 6), .int .i64 (rd l2 0), .int .i64 (rd l2 1), .int .i64 (rd l2 2), .int .i64 (rd l2 3), .int .i64 (rd l2 4), .int .i64 (rd l2 5), .int .i64 (rd l2 6), .int .i64 a1] (0, 0) _ rfl Y7.out hu rfl (by kernel_rfl) .nil)
  · exact ⟨rfl, B7.out⟩
theorem impl_parts_yard.calls (A0 : Option Addr) (c0 : Nat) (l0 : List Int) (A1 : Option Addr) (c1 : Nat) (l1 : List Int) (A2 : Option Addr) (c2 : Nat) (l2 : List Int) (a1 : Int) (r1 r2 r3 r4 r5 r6 r7 r8 r9 r10 r11 r12 r13 r14 r15 r16 r17 r18 r19 r20 r21 r22 : Int) (w : World) (hr0 : Kd.C (Kd.int .i64) w A0 l0.length l0) (hc0 : l0.length ≤ c0) (hr1 : Kd.C (Kd.int .i64) w A1 l1.length l1) (hc1 : l1.length ≤ c1) (hr2 : Kd.C (Kd.int .i64) w A2 l2.length l2) (hc2 : l2.length ≤ c2) (h : impl_parts_yard.f l0 l1 l2 a1 = some (r1, r2, r3, r4, r5, r6, r7, r8, r9, r10, r11, r12, r13, r14, r15, r16, r17, r18, r19, r20, r21, r22)) :
    Calls Try.prog 35 #[.agg #[.slice A0 l0.length c0, .slice A1 l1.length c1, .slice A2 l2.length c2], .int .i64 a1] w fun e w' => e = .returned (.agg #[.int .i64 r1, .int .i64 r2, .int .i64 r3, .int .i64 r4, .int .i64 r5, .int .i64 r6, .int .i64 r7, .int .i64 r8, .int .i64 r9, .int .i64 r10, .int .i64 r11, .int .i64 r12, .int .i64 r13, .int .i64 r14, .int .i64 r15, .int .i64 r16, .int .i64 r17, .int .i64 r18, .int .i64 r19, .int .i64 r20, .int .i64 r21, .int .i64 r22]) ∧ Below w.heap.size w w' := by
  have h' := Option.some.inj h
  simp only [Prod.mk.injEq] at h'
  obtain ⟨rfl, rfl, rfl, rfl, rfl, rfl, rfl, rfl, rfl, rfl, rfl, rfl, rfl, rfl, rfl, rfl, rfl, rfl, rfl, rfl, rfl, rfl⟩ := h'
  exact impl_parts_yard_walk A0 c0 l0 A1 c1 l1 A2 c2 l2 a1 w hr0 hr1 hr2

end Go.Proofs.Ythokeoocdkaffaa.Xl
