/- slices.Sort at []int where no more than twelve numbers are sorted. -/
import Derived.Test.YteccmfcmkghbgaaZqXq0
import Derived.Test.YteccmfcmkghbgaaZqXq7
import Derived.OneCell
import Derived.Lib.SliceRun
import Derived.Laws.EntriesVeiled
namespace Go.Proofs.Yteccmfcmkghbgaa.Xq
open Go.RowKit Go.Proofs.YteccmfcmkghbgaaW.PrintWords Go.Proofs.YteccmfcmkghbgaaW.PrintLast Go.Proofs.YteccmfcmkghbgaaW.PrintMore
attribute [local go_sem] max2_int min2_int max_two min_two max_three min_three max_four min_four
set_option linter.unusedVariables false
set_option linter.unusedSimpArgs false
def slices_Sort_int_int.f (k : Nat) (l0 : List Int) : Option (List Int) := if l0.length ≤ 12 then slices_insertionSortOrdered_int.f k l0 0 (l0.length : Int) else none
theorem slices_Sort_int_int.mono : ∀ a0 k, LeO (slices_Sort_int_int.f k a0) (slices_Sort_int_int.f (k + 1) a0) := fun a0 k => LeO.ite (slices_insertionSortOrdered_int.mono a0 _ _ k) (LeO.none _)
set_option maxHeartbeats 8000000 in
set_option maxRecDepth 100000 in
theorem Len64_small (m : Int) (h : m = 0 ∨ m = 1 ∨ m = 2 ∨ m = 3 ∨ m = 4 ∨ m = 5 ∨ m = 6 ∨ m = 7 ∨ m = 8 ∨ m = 9 ∨ m = 10 ∨ m = 11 ∨ m = 12) (w : World) :
    Calls Try.prog 104 #[.int .u64 m] w fun e w' => ∃ z : Int, e = .returned (.int .i64 z) ∧ Drawn0 w w' := by
  rcases h with rfl | rfl | rfl | rfl | rfl | rfl | rfl | rfl | rfl | rfl | rfl | rfl | rfl
  all_goals
    go_enter Try.func104, Try.ntmps104
    go_wp2
    go_ret
    exact ⟨_, rfl, by repeat (first | exact Drawn0.refl _ | apply Drawn0.step)⟩
set_option maxHeartbeats 8000000 in
set_option maxRecDepth 100000 in
theorem Len_small (m : Int) (h : m = 0 ∨ m = 1 ∨ m = 2 ∨ m = 3 ∨ m = 4 ∨ m = 5 ∨ m = 6 ∨ m = 7 ∨ m = 8 ∨ m = 9 ∨ m = 10 ∨ m = 11 ∨ m = 12) (w : World) :
    Calls Try.prog 90 #[.int .u64 m] w fun e w' => ∃ z : Int, e = .returned (.int .i64 z) ∧ Drawn0 w w' := by
  have HM := Aside0.mk h
  clear h
  go_enter Try.func90, Try.ntmps90
  go_wp2_with (go_at_call 104; (refine (Len64_small m HM.out _).mono ?_); rintro e w6 ⟨z, rfl, ⟨nd, rfl⟩⟩)
  go_ret
  exact ⟨_, rfl, by repeat (first | exact Drawn0.refl _ | apply Drawn0.step)⟩
set_option maxHeartbeats 8000000 in
set_option maxRecDepth 100000 in
theorem pdq_small (k : Nat) (P0_ : Nat → Prop) (u9000_ : Value) (l0 : List Int) (z : Int) (r : List Int) (w0 w : World) (hB : Below w0.heap.size w0 w) (ho0 : Kd.R (Kd.int .i64) 3 w w0.heap.size P0_ u9000_ l0) (h : slices_Sort_int_int.f k l0 = some r) :
    Calls Try.prog 89 #[u9000_, .int .i64 0, .int .i64 (l0.length : Int), .int .i64 z] w fun e w' => e = .returned (.tuple #[]) ∧ Kd.R (Kd.int .i64) 3 w' w0.heap.size (fun k_ => (P0_ k_ ∨ w.heap.size ≤ k_)) u9000_ r ∧ Below w0.heap.size w0 w' ∧ Kept w w' (fun k_ => P0_ k_) := by
  unfold slices_Sort_int_int.f at h
  by_cases hl : l0.length ≤ 12
  · rw [if_pos hl] at h
    have H := Aside0.mk h
    have HB := Aside0.mk hB
    have HO := Aside0.mk ho0
    have hw1 : wrap64 ((l0.length : Int) - 0) = (l0.length : Int) := by unfold wrap64; omega
    have hw2 : IntKind.i64.wrap ((l0.length : Int) - 0) = (l0.length : Int) := (i64_w _).trans hw1
    have hw3 : wrap64 (l0.length : Int) = (l0.length : Int) := by unfold wrap64; omega
    have hw4 : IntKind.i64.wrap (l0.length : Int) = (l0.length : Int) := (i64_w _).trans hw3
    have hd : decide ((l0.length : Int) ≤ 12) = true := decide_eq_true (by omega)
    clear h hB ho0
    obtain ⟨A, c, ev⟩ := Kd.R_slice HO.out
    subst ev
    go_enter Try.func89, Try.ntmps89
    go_wp2
    go_loopg [1, 2] 0 (fun kq v1 v2 wr => v1 = .int .i64 0 ∧ v2 = .int .i64 (l0.length : Int) ∧ Aside0 (∃ n, wr = w.drewN n))
    case atStart => exact ⟨rfl, rfl, ⟨⟨0, rfl⟩⟩⟩
    case round =>
      obtain ⟨rfl, rfl, HW⟩ := hrel
      obtain ⟨n, hn⟩ := HW.out
      subst hn
      go_wp2_with (go_at_call 95; (refine (slices_insertionSortOrdered_int.calls k P0_ (.slice A l0.length c) l0 0 (l0.length : Int) r w0 _ (pw_below_drewN HB.out _) (Kd.R_drewN HO.out _) H.out).mono ?_); rintro e w6 ⟨rfl, ho, hb, hk⟩; have HO6 := Aside0.mk ho; have HB6 := Aside0.mk hb; have HK6 := Aside0.mk hk; clear ho hb hk)
      first | go_end0 | ((try simp only [Exit.inBlock, Exit.then]); refine bodyPost_ret (results_none rfl _ _ _) rfl ?_)
      exact ⟨rfl, HO6.out, HB6.out, HK6.out⟩
  · rw [if_neg hl] at h
    cases h
set_option maxHeartbeats 8000000 in
set_option maxRecDepth 100000 in
theorem slices_Sort_int_int.calls (k : Nat) (P0_ : Nat → Prop) (u9000_ : Value) (l0 : List Int) (r : List Int) (w0 w : World) (hB : Below w0.heap.size w0 w) (ho0 : Kd.R (Kd.int .i64) 3 w w0.heap.size P0_ u9000_ l0) (h : slices_Sort_int_int.f k l0 = some r) :
    Calls Try.prog 79 #[u9000_] w fun e w' => e = .returned (.tuple #[]) ∧ Kd.R (Kd.int .i64) 3 w' w0.heap.size (fun k_ => (P0_ k_ ∨ w.heap.size ≤ k_)) u9000_ r ∧ Below w0.heap.size w0 w' ∧ Kept w w' (fun k_ => P0_ k_) := by
  have hl : l0.length ≤ 12 := by
    unfold slices_Sort_int_int.f at h
    by_cases hl : l0.length ≤ 12
    · exact hl
    · rw [if_neg hl] at h
      cases h
  have H := Aside0.mk h
  have HB := Aside0.mk hB
  have HO := Aside0.mk ho0
  have HL := Aside0.mk (show (l0.length : Int) = 0 ∨ (l0.length : Int) = 1 ∨ (l0.length : Int) = 2 ∨ (l0.length : Int) = 3 ∨ (l0.length : Int) = 4 ∨ (l0.length : Int) = 5 ∨ (l0.length : Int) = 6 ∨ (l0.length : Int) = 7 ∨ (l0.length : Int) = 8 ∨ (l0.length : Int) = 9 ∨ (l0.length : Int) = 10 ∨ (l0.length : Int) = 11 ∨ (l0.length : Int) = 12 by omega)
  have hw : IntKind.u64.wrap (l0.length : Int) = (l0.length : Int) := by
    show (l0.length : Int) % (2 ^ 64 : Int) = _
    omega
  clear h hB ho0 hl
  obtain ⟨A, c, ev⟩ := Kd.R_slice HO.out
  subst ev
  go_enter Try.func79, Try.ntmps79
  go_wp2_with (first
    | (go_at_call 90; (refine (Len_small (l0.length : Int) HL.out _).mono ?_); rintro e w6 ⟨z, rfl, ⟨nd, rfl⟩⟩)
    | (go_at_call 89; (refine (pdq_small k P0_ (.slice A l0.length c) l0 z r w0 _ (pw_below_drewN HB.out _) (Kd.R_drewN HO.out _) H.out).mono ?_); rintro e w7 ⟨rfl, ho, hb, hk⟩; have HO6 := Aside0.mk ho; have HB6 := Aside0.mk hb; have HK6 := Aside0.mk hk; clear ho hb hk))
  first | go_end0 | ((try simp only [Exit.inBlock, Exit.then]); refine bodyPost_ret (results_none rfl _ _ _) rfl ?_)
  exact ⟨rfl, HO6.out, HB6.out, HK6.out⟩

end Go.Proofs.Yteccmfcmkghbgaa.Xq
