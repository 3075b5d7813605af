/- laws.eqIntA2: two arrays of two numbers compared. -/
import Derived.Test.YteccmfcmkghbgaaZqXq0
import Derived.OneCell
namespace Go.Proofs.Yteccmfcmkghbgaa.Xq
open Go.RowKit Go.Proofs.YteccmfcmkghbgaaW.PrintWords Go.Proofs.YteccmfcmkghbgaaW.PrintLast Go.Proofs.YteccmfcmkghbgaaW.PrintMore
attribute [local go_sem] max2_int min2_int max_two min_two max_three min_three max_four min_four
set_option linter.unusedVariables false
set_option linter.unusedSimpArgs false
def laws_eqIntA2.f (a0_0 a0_1 a1_0 a1_1 : Int) : Option Bool := some (decide (a0_0 = a1_0) && decide (a0_1 = a1_1))
theorem cell_of_two {w : World} {b e : Nat} {v0 v1 : Value} (h : w.heap[b]? = some (.cells #[v0, v1] e (0, 0))) : w.cell? ⟨b, 0, none⟩ = some v0 ∧ w.cell? ⟨b, 1, none⟩ = some v1 := by
  constructor <;> simp [World.cell?, h]
set_option maxHeartbeats 4000000 in
set_option maxRecDepth 100000 in
theorem laws_eqIntA2_walk (a0 a1 b0 b1 : Int) (w : World) :
    Calls Try.prog 8 #[.agg #[.int .i64 a0, .int .i64 a1], .agg #[.int .i64 b0, .int .i64 b1]] w fun e w' => e = .returned (.bool (decide (a0 = b0) && decide (a1 = b1))) ∧ Below w.heap.size w w' := by
  have p0 : ∀ (w : World) (b : Nat), (Instr.indexAt 22 (.pointer (some ⟨b, 0, none⟩)) (.int .i64 0)).run Try.prog w = .ok (.pointer (some ⟨b, 0, none⟩)) w := fun _ _ => by kernel_rfl
  have p1 : ∀ (w : World) (b : Nat), (Instr.indexAt 22 (.pointer (some ⟨b, 0, none⟩)) (.int .i64 1)).run Try.prog w = .ok (.pointer (some ⟨b, 1, none⟩)) w := fun _ _ => by kernel_rfl
  have HB := Aside0.mk (Below.refl w.heap.size w)
  go_enter Try.func8, Try.ntmps8
  go_wp2
  go_loopg [5] 2 (fun kq v5 w' => ∃ (i : Int), v5 = .int .i64 i ∧ Aside0 (i + kq = 2) ∧ Aside0 (0 ≤ i) ∧ Aside0 (0 < i → a0 = b0) ∧ Aside0 (1 < i → a1 = b1) ∧ Aside0 (Below w.heap.size w w') ∧ Aside0 (w'.heap[w.heap.size]? = some (.cells #[.int .i64 a0, .int .i64 a1] 22 (0, 0))) ∧ Aside0 (w'.heap[w.heap.size + 1]? = some (.cells #[.int .i64 b0, .int .i64 b1] 22 (0, 0))))
  case atStart =>
    have z1 := blk_new w (.cells #[.int .i64 a0, .int .i64 a1] 22)
    have z2 := blk_new (w.alloc (.cells #[.int .i64 a0, .int .i64 a1] 22)) (.cells #[.int .i64 b0, .int .i64 b1] 22)
    rw [World.size_alloc] at z2
    exact ⟨0, rfl, ⟨rfl⟩, ⟨by omega⟩, ⟨by omega⟩, ⟨by omega⟩, ⟨below_alloc (below_alloc HB.out _) _⟩, ⟨blk_alloc z1 _⟩, ⟨z2⟩⟩
  case round =>
    clear HB
    obtain ⟨i, rfl, HK, H0, H1, H2, HB, HX, HY⟩ := hrel
    obtain ⟨x0, x1⟩ := cell_of_two HX.out
    obtain ⟨y0, y1⟩ := cell_of_two HY.out
    have hi : i = 0 ∨ i = 1 ∨ i = 2 := by have := HK.out; have := H0.out; omega
    rcases hi with rfl | rfl | rfl
    · obtain ⟨k1, hk1⟩ : ∃ k1, gk = k1 + 1 := ⟨gk - 1, by have := HK.out; omega⟩
      subst hk1
      by_cases h : a0 = b0
      · have hne : (a0 != b0) = false := by rw [h]; exact bne_self_eq_false _
        have HE := Aside0.mk h
        clear h
        go_wp2
        repeat (go_quiet (fail); try go_wp2)
        go_roundg k1
        case measure => omega
        case rel => exact ⟨1, rfl, ⟨by have := HK.out; omega⟩, ⟨by omega⟩, ⟨fun _ => HE.out⟩, ⟨fun h => by omega⟩, ⟨by repeat (first | exact HB.out | apply below_alloc | apply pw_below_drewN | apply below_drew1)⟩, ⟨HX.out⟩, ⟨HY.out⟩⟩
      · have hne : (a0 != b0) = true := bne_iff_ne.2 h
        have HE := Aside0.mk h
        clear h
        go_wp2
        repeat (go_quiet (fail); try go_wp2)
        go_ret
        exact ⟨by rw [decide_eq_false HE.out]; rfl, by repeat (first | exact HB.out | apply below_alloc | apply pw_below_drewN | apply below_drew1)⟩
    · obtain ⟨k1, hk1⟩ : ∃ k1, gk = k1 + 1 := ⟨gk - 1, by have := HK.out; omega⟩
      subst hk1
      by_cases h : a1 = b1
      · have hne : (a1 != b1) = false := by rw [h]; exact bne_self_eq_false _
        have HE := Aside0.mk h
        clear h
        go_wp2
        repeat (go_quiet (fail); try go_wp2)
        go_roundg k1
        case measure => omega
        case rel => exact ⟨2, rfl, ⟨by have := HK.out; omega⟩, ⟨by omega⟩, ⟨fun _ => H1.out (by omega)⟩, ⟨fun _ => HE.out⟩, ⟨by repeat (first | exact HB.out | apply below_alloc | apply pw_below_drewN | apply below_drew1)⟩, ⟨HX.out⟩, ⟨HY.out⟩⟩
      · have hne : (a1 != b1) = true := bne_iff_ne.2 h
        have HE := Aside0.mk h
        clear h
        go_wp2
        repeat (go_quiet (fail); try go_wp2)
        go_ret
        exact ⟨by rw [decide_eq_false HE.out, Bool.and_false]; rfl, by repeat (first | exact HB.out | apply below_alloc | apply pw_below_drewN | apply below_drew1)⟩
    · go_wp2
      go_ret
      exact ⟨by rw [decide_eq_true (H1.out (by omega)), decide_eq_true (H2.out (by omega))]; rfl, by repeat (first | exact HB.out | apply below_alloc | apply pw_below_drewN | apply below_drew1)⟩
theorem laws_eqIntA2.calls (a0_0 a0_1 a1_0 a1_1 : Int) (r : Bool) (w : World) (h : laws_eqIntA2.f a0_0 a0_1 a1_0 a1_1 = some r) :
    Calls Try.prog 8 #[.agg #[.int .i64 a0_0, .int .i64 a0_1], .agg #[.int .i64 a1_0, .int .i64 a1_1]] w fun e w' => e = .returned (.bool r) ∧ Below w.heap.size w w' := by
  obtain rfl := Option.some.inj h
  exact laws_eqIntA2_walk a0_0 a0_1 a1_0 a1_1 w

end Go.Proofs.Yteccmfcmkghbgaa.Xq
