-- Written by this session's own program (xprint.py) over the kit's print.py: functions, contracts and rows of the laws of one seat.
import Derived.Test.YtnoapomobflknaaZiXi0
import Derived.Test.YtnoapomobflknaaZiXi1
import Derived.Test.YtnoapomobflknaaZiXi3
import Derived.Test.YtnoapomobflknaaZiXi4
import Derived.Test.YtnoapomobflknaaZiXi7
import Derived.Test.YtnoapomobflknaaZiXi9
import Derived.Test.YtnoapomobflknaaZiXi10
import Derived.Test.YtnoapomobflknaaZiXi11
import Derived.Test.YtnoapomobflknaaZiXiHdelete
import Derived.Test.YtnoapomobflknaaZiXiHdelfunc
namespace Go.Proofs.Ytnoapomobflknaa.Xi
open Go.RowKit Go.Proofs.YtnoapomobflknaaW.PrintWords Go.Proofs.YtnoapomobflknaaW.PrintLast Go.Proofs.YtnoapomobflknaaW.PrintMore
attribute [local go_sem] max2_int min2_int max_two min_two max_three min_three max_four min_four   -- for this text's walks alone
set_option linter.unusedVariables false
set_option linter.unusedSimpArgs false

/-! ### impl_allOrders: function 139 -/
def impl_allOrders.l0 : Nat → Int → List (List Int) → Int → Int → Option ((List (List Int)))
 | 0, _, _, _, _ => none
 | k + 1, x0, x3, x7, x8 => if x8 < x7 then ((impl_orderAt.f k x0 x8).bind fun t460 => (if x3.length < 5864062014805 then (impl_allOrders.l0 k x0 (x3 ++ [t460]) x7 (wrap64 (x8 + 1))) else (none))) else (some x3)
def impl_allOrders.f (k : Nat) (a0 : Int) : Option ((List (List Int))) := (impl_factorial.f k a0).bind fun t459 => (impl_allOrders.l0 k a0 (([] : List (List Int))) t459 0)
set_option maxHeartbeats 8000000 in
set_option maxRecDepth 100000 in
theorem impl_allOrders.calls (k : Nat) (a0 : Int) (r : List (List Int)) (w : World) (h : impl_allOrders.f k a0 = some r) :
  Calls Try.prog 139 #[.int .i64 a0] w fun e w' => ∃ v0_ : Value, e = .returned (v0_) ∧ Kd.S (Kd.slice 3 (Kd.int .i64)) 24 w' w.heap.size (fun _ => True) v0_ r ∧ Below w.heap.size w w' := by
 have HB := Aside0.mk (Below.refl w.heap.size w)
 have H : ((impl_factorial.f k a0).bind fun t459 => (impl_allOrders.l0 k a0 (([] : List (List Int))) t459 0)) = some r := h
 clear h
 obtain ⟨y456, hy456⟩ : ∃ y_ : List (List Int), y_ = (([] : List (List Int))) := ⟨_, rfl⟩
 replace H : ((impl_factorial.f k a0).bind fun t459 => (impl_allOrders.l0 k a0 y456 t459 0)) = some r := by first | (rw [hy456]; with_reducible exact H) | (have H2_ := (Option.bind_some _ _).symm.trans H; rw [hy456]; with_reducible exact H2_) | (have H2_ := (Option.bind_some _ _).symm.trans H; with_reducible exact H2_) | with_reducible exact H | (rw [hy456]; exact H) | exact H
 have Ny456 := Aside0.mk hy456
 clear hy456
 replace H := Option.bind_eq_some_iff.mp H
 obtain ⟨t459, A20, H⟩ := H
 replace H : (impl_allOrders.l0 k a0 y456 t459 0) = some r := H
 have A2 := Aside0.mk A20
 clear A20
 have H' := Aside0.mk H
 clear H
 go_enter Try.func139, Try.ntmps139
 go_wp2_with (first | ((with_reducible refine gate_dst (N := 5) rfl ?_); refine Kd.S_lit (Kd.slice 3 (Kd.int .i64)) _ 24 ?hg (N := 5) ?hd (xs := ([] : List (List Int))) (inner := []) (ok := fun _ => True) (okp := fun _ => True) ?hr ?hp (fun _ hk => hk) trivial (Below.refl _ _) (Nat.le_refl _) (by simp) ?_; (case hd => rfl); (case hg => rfl); (case hr => first | (go_simp; done) | (go_simp; rfl)); (case hp => exact (Reps.none _ _)); intro v457 w3 ho4 hb hg_ hnew_; clear hg_ hnew_; (first | rw [← Ny456.out] at ho4 | (simp only [Int.reduceToNat] at ho4; rw [← Ny456.out] at ho4)); have n0_ := Aside0.mk (Kd.S_lower ho4 (below_size qy16)); have n1_ := Aside0.mk (below_step qy16 hb); clear HB; have HO458 := n0_; have HB := n1_; clear n0_ n1_; clear hb ho4) | ((with_reducible refine gate_callee (f := 161) rfl ?_); refine goesL_ (some 7) rfl rfl Try.func161 (by kernel_rfl) rfl #[.int .i64 a0] rfl qy15 ?_; (with_reducible refine (impl_factorial.calls k a0 t459 _ A2.out).mono ?_); rintro e w' ⟨rfl, ⟨nd, rfl⟩⟩; refine ⟨_, rfl, ?_⟩))
 go_loopg [3, 8] k (fun kq v3 v8 w' => ∃ (x3_1 : List (List Int)) (x8_1 : Int), v8 = .int .i64 x8_1 ∧ Aside0 (impl_allOrders.l0 kq a0 x3_1 t459 x8_1 = some r) ∧ Aside0 (kq ≤ k) ∧ Aside0 (Kd.S (Kd.slice 3 (Kd.int .i64)) 24 w' w.heap.size (fun _ => True) v3 x3_1) ∧ Aside0 (Below w.heap.size w w'))
 case atStart => exact ⟨(y456), (0), qy44, H', ⟨Nat.le_refl _⟩, ⟨by (with_reducible repeat (first | apply Kd.S_alloc | apply Kd.S_drewN | apply Kd.S_drew)); exact HO458.out⟩, ⟨by repeat (first | (with_reducible first | exact HB.out | apply below_alloc | apply pw_below_drewN | apply below_drew1) | exact HB.out)⟩⟩
 case round =>
  clear H'
  try clear c1
  try clear p2
  obtain ⟨x3_1, x8_1, rfl, HA, HK1, HO_3, HB⟩ := hrel
  cases gk with
  | zero => exact absurd HA.out (by simp [impl_allOrders.l0])
  | succ k1 =>
   have H := HA.out
   clear HA
   simp only [impl_allOrders.l0] at H
   by_cases c5 : x8_1 < t459
   ·rw [if_pos c5] at H
    have c5b0 : decide (x8_1 < t459) = true := decide_eq_true c5
    clear c5
    replace H := Option.bind_eq_some_iff.mp H
    obtain ⟨t460, A60, H⟩ := H
    replace H : (if x3_1.length < 5864062014805 then (impl_allOrders.l0 k1 a0 (x3_1 ++ [t460]) t459 (wrap64 (x8_1 + 1))) else (none)) = some r := H
    have A6 := Aside0.mk A60
    clear A60
    by_cases c7 : x3_1.length < 5864062014805
    ·rw [if_pos c7] at H
     have LMc7 := Aside0.mk c7
     clear c7
     obtain ⟨y463, hy463⟩ : ∃ y_ : List (List Int), y_ = (x3_1 ++ [t460]) := ⟨_, rfl⟩
     replace H : (impl_allOrders.l0 k1 a0 y463 t459 (wrap64 (x8_1 + 1))) = some r := by first | (rw [hy463]; with_reducible exact H) | (have H2_ := (Option.bind_some _ _).symm.trans H; rw [hy463]; with_reducible exact H2_) | (have H2_ := (Option.bind_some _ _).symm.trans H; with_reducible exact H2_) | with_reducible exact H | (rw [hy463]; exact H) | exact H
     have Ny463 := Aside0.mk hy463
     clear hy463
     have H' := Aside0.mk H
     clear H
     go_wp2_with (first | ((with_reducible refine gate_callee (f := 162) rfl ?_); refine goesL_ (some 14) rfl rfl Try.func162 (by kernel_rfl) rfl #[.int .i64 a0, .int .i64 x8_1] rfl qy15 ?_; (with_reducible refine (impl_orderAt.calls k1 a0 x8_1 t460 _ A6.out).mono ?_); rintro e w8 ⟨v461, rfl, ho0, hb⟩; refine ⟨_, rfl, ?_⟩; have n0_ := Aside0.mk (Kd.S_elder' (by (with_reducible repeat (first | apply Kd.S_alloc | apply Kd.S_drewN | apply Kd.S_drew)); exact HO_3.out) (Kd.R_base ho0) hb); have n1_ := Aside0.mk (Kd.R_lower ho0 (below_size qy16)); have n2_ := Aside0.mk (below_step qy16 hb); clear HO_3; clear HB; have HO_3 := n0_; have HO462 := n1_; have HB := n2_; clear n0_ n1_ n2_; (try clear hb); (try clear hb2); (try clear hk); (try clear hi); (try clear ho0); obtain ⟨Ao10, co10, eo10⟩ := Kd.R_slice HO462.out; subst eo10) | ((with_reducible refine gate_builtin (b := .append) (xs := #[.tmp 11, .tmp 15]) rfl ?_); at_builtin; refine Kd.S_append (Kd.slice 3 (Kd.int .i64)) (w0 := w) w.heap.size rfl (.tmp 11) (.tmp 15) 108 24 (.slice none 0 0) 24 rfl Try.underlying108 info24 rfl (by decide) (by omega) u3 x3_1 t460 [.slice Ao10 t460.length co10] (fun _ => True) (fun k_ => some k_ = (.slice Ao10 t460.length co10 : Value).ownBlock) rfl rfl ?aP (fun k_ hk_ => ((Kd.R_mono (ok' := fun k_ => ((fun _ => True)) k_ ∧ some k_ ≠ (u3 : Value).ownBlock) (Kd.R_apart' (HO462.out) (Kd.S_typed HO_3.out) (by decide)) (fun k_ hk => ⟨trivial, hk.2⟩))).1 k_ hk_.symm) ?aF ?aO ?aB ?aS ?aL ?_; (case aP => exact Kd.M_row (Kd.R_mono (Kd.R_tight rfl (Kd.R_mono (ok' := fun k_ => ((fun _ => True)) k_ ∧ some k_ ≠ (u3 : Value).ownBlock) (Kd.R_apart' (HO462.out) (Kd.S_typed HO_3.out) (by decide)) (fun k_ hk => ⟨trivial, hk.2⟩))) (fun _ h_ => h_))); (case aB => exact qy16); (case aF => exact (fun _ _ => trivial)); (case aO => exact (by (with_reducible repeat (first | apply Kd.S_alloc | apply Kd.S_drewN | apply Kd.S_drew)); exact Kd.S_mono HO_3.out (fun k_ hk => ⟨trivial, fun e_ => hk.2 e_⟩))); (case aS => exact (below_size qy16)); (case aL => have := LMc7.out; omega); intro v464 w9 ho hb hg hat; rw [← Ny463.out] at ho; have n0_ := Aside0.mk (hb); have n1_ := Aside0.mk (ho); clear HB; clear HO_3; clear HO462; have HB := n0_; have HO465 := n1_; clear n0_ n1_; clear ho hb hg hat))
     go_roundg k1
     case measure => have := HK1.out; omega
     case rel => exact ⟨(y463), (wrap64 (x8_1 + 1)), qy44, H', ⟨by have := HK1.out; omega⟩, ⟨by (with_reducible repeat (first | apply Kd.S_alloc | apply Kd.S_drewN | apply Kd.S_drew)); exact HO465.out⟩, ⟨by repeat (first | (with_reducible first | exact HB.out | apply below_alloc | apply pw_below_drewN | apply below_drew1) | exact HB.out)⟩⟩
    ·rw [if_neg c7] at H
     exact absurd H (by simp)
   ·rw [if_neg c5] at H
    have c5b0 : decide (x8_1 < t459) = false := decide_eq_false c5
    clear c5
    obtain rfl := Option.some.inj H
    go_wp2
    go_ret
    exact ⟨_, by first | rfl | (simp [errW_none, errW_some] <;> rfl) | (simp [*, errW_none, errW_some] <;> rfl), by (with_reducible repeat (first | apply Kd.S_alloc | apply Kd.S_drewN | apply Kd.S_drew)); exact HO_3.out, by repeat (first | (with_reducible first | exact HB.out | apply below_alloc | apply pw_below_drewN | apply below_drew1) | exact HB.out)⟩

/-! ### impl_CountSortedWithin: function 64 -/
mutual
def impl_CountSortedWithin.j0 : Nat → Int → Int → Bool → Option (Int × Bool)
 | 0, _, _, _ => none
 | k + 1, x0, x1, x18 => if x18 = true then (some (0, false)) else ((impl_allOrders.f k x0).bind fun t468 => (impl_CountSortedWithin.l0 k x1 0 t468 (t468.length : Int) 0))
def impl_CountSortedWithin.l0 : Nat → Int → Int → List (List Int) → Int → Int → Option (Int × Bool)
 | 0, _, _, _, _, _ => none
 | k + 1, x1, x6, x20, x21, x22 => if x22 < x21 then (if 0 ≤ x22 then (if x22 < (x20.length : Int) then ((impl_limitOf.f k (rd_L7 x20 x22)).bind fun bt472 => (if bt472.2 = true then (if bt472.1 ≤ x1 then (impl_CountSortedWithin.l0 k x1 (wrap64 (x6 + 1)) x20 x21 (wrap64 (x22 + 1))) else (impl_CountSortedWithin.l0 k x1 x6 x20 x21 (wrap64 (x22 + 1)))) else (impl_CountSortedWithin.l0 k x1 x6 x20 x21 (wrap64 (x22 + 1))))) else (none)) else (none)) else (some (x6, true))
end
def impl_CountSortedWithin.f (k : Nat) (a0 : Int) (a1 : Int) : Option (Int × Bool) := (impl_isSize.f a0).bind fun t466 => (if t466 = true then ((impl_isLimit.f a1).bind fun t467 => (impl_CountSortedWithin.j0 k a0 a1 (!t467))) else (impl_CountSortedWithin.j0 k a0 a1 true))
set_option maxHeartbeats 8000000 in
set_option maxRecDepth 100000 in
theorem impl_CountSortedWithin.calls (k : Nat) (a0 : Int) (a1 : Int) (r1 : Int) (r2 : Bool) (w : World) (h : impl_CountSortedWithin.f k a0 a1 = some (r1, r2)) :
  Calls Try.prog 64 #[.int .i64 a0, .int .i64 a1] w fun e w' => e = .returned (.tuple #[.int .i64 r1, .bool r2]) ∧ Below w.heap.size w w' := by
 have HB := Aside0.mk (Below.refl w.heap.size w)
 have H : ((impl_isSize.f a0).bind fun t466 => (if t466 = true then ((impl_isLimit.f a1).bind fun t467 => (impl_CountSortedWithin.j0 k a0 a1 (!t467))) else (impl_CountSortedWithin.j0 k a0 a1 true))) = some (r1, r2) := h
 clear h
 have HC3 := Aside0.mk H
 clear H
 go_enter Try.func64, Try.ntmps64
 go_upto_region 1 with (fail)
 go_cut [18] (fun v18 wc => ∃ (kq : Nat) (x18_2 : Bool), v18 = .bool x18_2 ∧ Aside0 (impl_CountSortedWithin.j0 kq a0 a1 x18_2 = some (r1, r2)) ∧ Aside0 (kq ≤ k) ∧ Aside0 (Below w.heap.size w wc))
 case first =>
  have H := HC3.out
  clear HC3
  replace H := Option.bind_eq_some_iff.mp H
  obtain ⟨t466, A40, H⟩ := H
  replace H : (if t466 = true then ((impl_isLimit.f a1).bind fun t467 => (impl_CountSortedWithin.j0 k a0 a1 (!t467))) else (impl_CountSortedWithin.j0 k a0 a1 true)) = some (r1, r2) := H
  have A4 := Aside0.mk A40
  clear A40
  by_cases c5 : t466 = true
  ·subst c5
   have H1 : ((impl_isLimit.f a1).bind fun t467 => (impl_CountSortedWithin.j0 k a0 a1 (!t467))) = some (r1, r2) := by rw [if_pos rfl] at H; exact H
   clear H
   have H := H1
   clear H1
   replace H := Option.bind_eq_some_iff.mp H
   obtain ⟨t467, A60, H⟩ := H
   replace H : (impl_CountSortedWithin.j0 k a0 a1 (!t467)) = some (r1, r2) := H
   have A6 := Aside0.mk A60
   clear A60
   have H' := Aside0.mk H
   clear H
   go_wp2_with (first | ((with_reducible refine gate_callee (f := 135) rfl ?_); refine goesL_ (some 12) rfl rfl Try.func135 (by kernel_rfl) rfl #[.int .i64 a0] rfl qy15 ?_; (with_reducible refine (impl_isSize.calls a0 true _ A4.out).mono ?_); rintro e w' ⟨rfl, ⟨nd, rfl⟩⟩; refine ⟨_, rfl, ?_⟩) | (go_at_call 95; (with_reducible refine (impl_isLimit.calls a1 t467 _ A6.out).mono ?_); rintro e w' ⟨rfl, ⟨nd, rfl⟩⟩))
   go_meet
   case rel => exact ⟨_, (!t467), qy44, H', ⟨by first | omega | exact Nat.le_refl _⟩, ⟨by repeat (first | (with_reducible first | exact HB.out | apply below_alloc | apply pw_below_drewN | apply below_drew1) | exact HB.out)⟩⟩
  ·replace c5 := Bool.eq_false_iff.mpr c5
   subst c5
   have H1 : (impl_CountSortedWithin.j0 k a0 a1 true) = some (r1, r2) := by rw [if_neg (show ¬ (false = true) by decide)] at H; exact H
   clear H
   have H := H1
   clear H1
   have H' := Aside0.mk H
   clear H
   go_wp2_with (first | ((with_reducible refine gate_callee (f := 135) rfl ?_); refine goesL_ (some 12) rfl rfl Try.func135 (by kernel_rfl) rfl #[.int .i64 a0] rfl qy15 ?_; (with_reducible refine (impl_isSize.calls a0 false _ A4.out).mono ?_); rintro e w' ⟨rfl, ⟨nd, rfl⟩⟩; refine ⟨_, rfl, ?_⟩))
   go_meet
   case rel => exact ⟨_, (true), qy44, H', ⟨by first | omega | exact Nat.le_refl _⟩, ⟨by repeat (first | (with_reducible first | exact HB.out | apply below_alloc | apply pw_below_drewN | apply below_drew1) | exact HB.out)⟩⟩
 case rest =>
  clear HC3
  try clear c1
  try clear p2
  try clear c5
  try clear c6
  obtain ⟨kq, x18_2, rfl, HA, HJ2, HB⟩ := hcut
  cases kq with
  | zero => exact absurd HA.out (by simp [impl_CountSortedWithin.j0])
  | succ kj2 =>
   have H := HA.out
   clear HA
   simp only [impl_CountSortedWithin.j0] at H
   by_cases c7 : x18_2 = true
   ·subst c7
    have H1 : (some (0, false)) = some (r1, r2) := by rw [if_pos rfl] at H; exact H
    clear H
    have H := H1
    clear H1
    simp only [Option.some.injEq, Prod.mk.injEq] at H
    obtain ⟨rfl, rfl⟩ := H
    go_wp2
    go_ret2
    exact ⟨by first | rfl | (simp [errW_none, errW_some] <;> rfl) | (simp [*, errW_none, errW_some] <;> rfl), by repeat (first | (with_reducible first | exact HB.out | apply below_alloc | apply pw_below_drewN | apply below_drew1) | exact HB.out)⟩
   ·replace c7 := Bool.eq_false_iff.mpr c7
    subst c7
    have H1 : ((impl_allOrders.f kj2 a0).bind fun t468 => (impl_CountSortedWithin.l0 kj2 a1 0 t468 (t468.length : Int) 0)) = some (r1, r2) := by rw [if_neg (show ¬ (false = true) by decide)] at H; exact H
    clear H
    have H := H1
    clear H1
    replace H := Option.bind_eq_some_iff.mp H
    obtain ⟨t468, A80, H⟩ := H
    replace H : (impl_CountSortedWithin.l0 kj2 a1 0 t468 (t468.length : Int) 0) = some (r1, r2) := H
    have A8 := Aside0.mk A80
    clear A80
    have H' := Aside0.mk H
    clear H
    go_wp2_with (first | ((with_reducible refine gate_callee (f := 139) rfl ?_); refine goesL_ (some 20) rfl rfl Try.func139 (by kernel_rfl) rfl #[.int .i64 a0] rfl qy15 ?_; (with_reducible refine (impl_allOrders.calls kj2 a0 t468 _ A8.out).mono ?_); rintro e w9 ⟨v469, rfl, ho0, hb⟩; refine ⟨_, rfl, ?_⟩; have n0_ := Aside0.mk (Kd.S_lower ho0 (below_size qy16)); have n1_ := Aside0.mk (below_step qy16 hb); clear HB; have HO470 := n0_; have HB := n1_; clear n0_ n1_; (try clear hb); (try clear hb2); (try clear hk); (try clear hi); (try clear ho0); obtain ⟨Ao10, co10, eo10⟩ := Kd.S_slice HO470.out; subst eo10))
    go_loopg [6, 22] kj2 (fun kq v6 v22 w' => ∃ (x6_2 : Int) (x22_2 : Int), v6 = .int .i64 x6_2 ∧ v22 = .int .i64 x22_2 ∧ Aside0 (impl_CountSortedWithin.l0 kq a1 x6_2 t468 (t468.length : Int) x22_2 = some (r1, r2)) ∧ Aside0 (kq ≤ kj2) ∧ Aside0 (Kd.S (Kd.slice 3 (Kd.int .i64)) 24 w' w.heap.size (fun _ => True) (.slice Ao10 t468.length co10) t468) ∧ Aside0 (Below w.heap.size w w'))
    case atStart => exact ⟨(0), (0), qy44, qy44, H', ⟨Nat.le_refl _⟩, ⟨by (with_reducible repeat (first | apply Kd.S_alloc | apply Kd.S_drewN | apply Kd.S_drew)); exact HO470.out⟩, ⟨by repeat (first | (with_reducible first | exact HB.out | apply below_alloc | apply pw_below_drewN | apply below_drew1) | exact HB.out)⟩⟩
    case round =>
     clear H'
     try clear c1
     try clear p2
     try clear c5
     try clear c6
     try clear c7
     try clear p2
     obtain ⟨x6_2, x22_2, rfl, rfl, HA, HK2, HO_20, HB⟩ := hrel
     cases gk with
     | zero => exact absurd HA.out (by simp [impl_CountSortedWithin.l0])
     | succ k2 =>
      have H := HA.out
      clear HA
      simp only [impl_CountSortedWithin.l0] at H
      by_cases c11 : x22_2 < (t468.length : Int)
      ·rw [if_pos c11] at H
       have c11b0 : decide (x22_2 < (t468.length : Int)) = true := decide_eq_true c11
       clear c11
       by_cases c12 : 0 ≤ x22_2
       ·rw [if_pos c12] at H
        have c12b0 : decide (0 ≤ x22_2) = true := decide_eq_true c12
        clear c12
        by_cases c13 : x22_2 < (t468.length : Int)
        ·rw [if_pos c13] at H
         have c13b0 : decide (x22_2 < (t468.length : Int)) = true := decide_eq_true c13
         clear c13
         replace H := Option.bind_eq_some_iff.mp H
         obtain ⟨⟨t472, t473⟩, A140, H⟩ := H
         replace H : (if t473 = true then (if t472 ≤ a1 then (impl_CountSortedWithin.l0 k2 a1 (wrap64 (x6_2 + 1)) t468 (t468.length : Int) (wrap64 (x22_2 + 1))) else (impl_CountSortedWithin.l0 k2 a1 x6_2 t468 (t468.length : Int) (wrap64 (x22_2 + 1)))) else (impl_CountSortedWithin.l0 k2 a1 x6_2 t468 (t468.length : Int) (wrap64 (x22_2 + 1)))) = some (r1, r2) := H
         have A14 := Aside0.mk A140
         clear A140
         by_cases c15 : t473 = true
         ·subst c15
          have H1 : (if t472 ≤ a1 then (impl_CountSortedWithin.l0 k2 a1 (wrap64 (x6_2 + 1)) t468 (t468.length : Int) (wrap64 (x22_2 + 1))) else (impl_CountSortedWithin.l0 k2 a1 x6_2 t468 (t468.length : Int) (wrap64 (x22_2 + 1)))) = some (r1, r2) := by rw [if_pos rfl] at H; exact H
          clear H
          have H := H1
          clear H1
          by_cases c16 : t472 ≤ a1
          ·rw [if_pos c16] at H
           have c16b0 : decide (t472 ≤ a1) = true := decide_eq_true c16
           clear c16
           have H' := Aside0.mk H
           clear H
           have p471 : 0 ≤ (x22_2 : Int) := of_decide_eq_true qy43
           have q471 : x22_2 < (t468.length : Int) := of_decide_eq_true qy43
           obtain ⟨ad471, A471_0, c471_0, e471, hx471_0, hl471_0, hi471_0⟩ := at_L7 (Kd.S_reads' HO_20.out).2.2 x22_2 p471 q471
           cases e471
           obtain ⟨ce471, hce471, hMe471, hcc471⟩ := Kd.S_get HO_20.out [] x22_2 p471 qy11
           obtain ⟨ve471_0, rfl, ge471_0⟩ := hMe471
           have hv471_0 := hcc471 0 _ rfl
           rw [Nat.add_zero, show ((Kd.slice 3 (Kd.int .i64))).sz = 1 from rfl, Nat.mul_one] at hv471_0
           replace hv471_0 := Option.some.inj (hv471_0.symm.trans hx471_0)
           rw [hv471_0] at ge471_0
           have HL471_0 := Aside0.mk (show Kd.R (Kd.int .i64) 3 _ _ _ _ (rd_L7 t468 x22_2) from ge471_0)
           clear hv471_0 ge471_0
           clear hcc471 hce471
           have HR471_0 := Aside0.mk hi471_0
           have HC471_0 := Aside0.mk hl471_0
           clear hi471_0 hl471_0
           replace p471 := eq_true p471
           replace q471 := eq_true q471
           go_wp2_with (first | ((with_reducible refine gate_callee (f := 130) rfl ?_); refine goesL_ (some 28) rfl rfl Try.func130 (by kernel_rfl) rfl #[.slice A471_0 (rd_L7 t468 x22_2).length c471_0] rfl qy15 ?_; (with_reducible refine (impl_limitOf.calls k2 _ _ (rd_L7 t468 x22_2) t472 true _ ?side1 ?side2 A14.out).mono ?_); (case side1 => repeat (first | exact qy3 | (with_reducible refine Kd.C_alloc ?_ _) | (with_reducible refine Kd.C_drewN ?_ _) | (with_reducible refine Kd.C_drew ?_))); (case side2 => exact HC471_0.out); rintro e w17 ⟨rfl, hb⟩; refine ⟨_, rfl, ?_⟩; have n0_ := Aside0.mk (Kd.S_below qy20 hb); have n1_ := Aside0.mk (Kd.R_below qy18 hb); have n2_ := Aside0.mk (Kd.C_below qy3 hb); have n3_ := Aside0.mk (below_step qy16 hb); clear HO_20; clear HL471_0; clear HR471_0; clear HB; have HO_20 := n0_; have HL471_0 := n1_; have HR471_0 := n2_; have HB := n3_; clear n0_ n1_ n2_ n3_; (try clear hb); (try clear hb2); (try clear hk); (try clear hi)))
           go_roundg k2
           case measure => have := HJ2.out; have := HK2.out; omega
           case rel => exact ⟨(wrap64 (x6_2 + 1)), (wrap64 (x22_2 + 1)), qy44, qy44, H', ⟨by have := HJ2.out; have := HK2.out; omega⟩, ⟨by (with_reducible repeat (first | apply Kd.S_alloc | apply Kd.S_drewN | apply Kd.S_drew)); exact HO_20.out⟩, ⟨by repeat (first | (with_reducible first | exact HB.out | apply below_alloc | apply pw_below_drewN | apply below_drew1) | exact HB.out)⟩⟩
          ·rw [if_neg c16] at H
           have c16b0 : decide (t472 ≤ a1) = false := decide_eq_false c16
           clear c16
           have H' := Aside0.mk H
           clear H
           have p471 : 0 ≤ (x22_2 : Int) := of_decide_eq_true qy43
           have q471 : x22_2 < (t468.length : Int) := of_decide_eq_true qy43
           obtain ⟨ad471, A471_0, c471_0, e471, hx471_0, hl471_0, hi471_0⟩ := at_L7 (Kd.S_reads' HO_20.out).2.2 x22_2 p471 q471
           cases e471
           obtain ⟨ce471, hce471, hMe471, hcc471⟩ := Kd.S_get HO_20.out [] x22_2 p471 qy11
           obtain ⟨ve471_0, rfl, ge471_0⟩ := hMe471
           have hv471_0 := hcc471 0 _ rfl
           rw [Nat.add_zero, show ((Kd.slice 3 (Kd.int .i64))).sz = 1 from rfl, Nat.mul_one] at hv471_0
           replace hv471_0 := Option.some.inj (hv471_0.symm.trans hx471_0)
           rw [hv471_0] at ge471_0
           have HL471_0 := Aside0.mk (show Kd.R (Kd.int .i64) 3 _ _ _ _ (rd_L7 t468 x22_2) from ge471_0)
           clear hv471_0 ge471_0
           clear hcc471 hce471
           have HR471_0 := Aside0.mk hi471_0
           have HC471_0 := Aside0.mk hl471_0
           clear hi471_0 hl471_0
           replace p471 := eq_true p471
           replace q471 := eq_true q471
           go_wp2_with (first | ((with_reducible refine gate_callee (f := 130) rfl ?_); refine goesL_ (some 28) rfl rfl Try.func130 (by kernel_rfl) rfl #[.slice A471_0 (rd_L7 t468 x22_2).length c471_0] rfl qy15 ?_; (with_reducible refine (impl_limitOf.calls k2 _ _ (rd_L7 t468 x22_2) t472 true _ ?side1 ?side2 A14.out).mono ?_); (case side1 => repeat (first | exact qy3 | (with_reducible refine Kd.C_alloc ?_ _) | (with_reducible refine Kd.C_drewN ?_ _) | (with_reducible refine Kd.C_drew ?_))); (case side2 => exact HC471_0.out); rintro e w18 ⟨rfl, hb⟩; refine ⟨_, rfl, ?_⟩; have n0_ := Aside0.mk (Kd.S_below qy20 hb); have n1_ := Aside0.mk (Kd.R_below qy18 hb); have n2_ := Aside0.mk (Kd.C_below qy3 hb); have n3_ := Aside0.mk (below_step qy16 hb); clear HO_20; clear HL471_0; clear HR471_0; clear HB; have HO_20 := n0_; have HL471_0 := n1_; have HR471_0 := n2_; have HB := n3_; clear n0_ n1_ n2_ n3_; (try clear hb); (try clear hb2); (try clear hk); (try clear hi)))
           go_roundg k2
           case measure => have := HJ2.out; have := HK2.out; omega
           case rel => exact ⟨(x6_2), (wrap64 (x22_2 + 1)), qy44, qy44, H', ⟨by have := HJ2.out; have := HK2.out; omega⟩, ⟨by (with_reducible repeat (first | apply Kd.S_alloc | apply Kd.S_drewN | apply Kd.S_drew)); exact HO_20.out⟩, ⟨by repeat (first | (with_reducible first | exact HB.out | apply below_alloc | apply pw_below_drewN | apply below_drew1) | exact HB.out)⟩⟩
         ·replace c15 := Bool.eq_false_iff.mpr c15
          subst c15
          have H1 : (impl_CountSortedWithin.l0 k2 a1 x6_2 t468 (t468.length : Int) (wrap64 (x22_2 + 1))) = some (r1, r2) := by rw [if_neg (show ¬ (false = true) by decide)] at H; exact H
          clear H
          have H := H1
          clear H1
          have H' := Aside0.mk H
          clear H
          have p471 : 0 ≤ (x22_2 : Int) := of_decide_eq_true qy43
          have q471 : x22_2 < (t468.length : Int) := of_decide_eq_true qy43
          obtain ⟨ad471, A471_0, c471_0, e471, hx471_0, hl471_0, hi471_0⟩ := at_L7 (Kd.S_reads' HO_20.out).2.2 x22_2 p471 q471
          cases e471
          obtain ⟨ce471, hce471, hMe471, hcc471⟩ := Kd.S_get HO_20.out [] x22_2 p471 qy11
          obtain ⟨ve471_0, rfl, ge471_0⟩ := hMe471
          have hv471_0 := hcc471 0 _ rfl
          rw [Nat.add_zero, show ((Kd.slice 3 (Kd.int .i64))).sz = 1 from rfl, Nat.mul_one] at hv471_0
          replace hv471_0 := Option.some.inj (hv471_0.symm.trans hx471_0)
          rw [hv471_0] at ge471_0
          have HL471_0 := Aside0.mk (show Kd.R (Kd.int .i64) 3 _ _ _ _ (rd_L7 t468 x22_2) from ge471_0)
          clear hv471_0 ge471_0
          clear hcc471 hce471
          have HR471_0 := Aside0.mk hi471_0
          have HC471_0 := Aside0.mk hl471_0
          clear hi471_0 hl471_0
          replace p471 := eq_true p471
          replace q471 := eq_true q471
          go_wp2_with (first | ((with_reducible refine gate_callee (f := 130) rfl ?_); refine goesL_ (some 28) rfl rfl Try.func130 (by kernel_rfl) rfl #[.slice A471_0 (rd_L7 t468 x22_2).length c471_0] rfl qy15 ?_; (with_reducible refine (impl_limitOf.calls k2 _ _ (rd_L7 t468 x22_2) t472 false _ ?side1 ?side2 A14.out).mono ?_); (case side1 => repeat (first | exact qy3 | (with_reducible refine Kd.C_alloc ?_ _) | (with_reducible refine Kd.C_drewN ?_ _) | (with_reducible refine Kd.C_drew ?_))); (case side2 => exact HC471_0.out); rintro e w19 ⟨rfl, hb⟩; refine ⟨_, rfl, ?_⟩; have n0_ := Aside0.mk (Kd.S_below qy20 hb); have n1_ := Aside0.mk (Kd.R_below qy18 hb); have n2_ := Aside0.mk (Kd.C_below qy3 hb); have n3_ := Aside0.mk (below_step qy16 hb); clear HO_20; clear HL471_0; clear HR471_0; clear HB; have HO_20 := n0_; have HL471_0 := n1_; have HR471_0 := n2_; have HB := n3_; clear n0_ n1_ n2_ n3_; (try clear hb); (try clear hb2); (try clear hk); (try clear hi)))
          go_roundg k2
          case measure => have := HJ2.out; have := HK2.out; omega
          case rel => exact ⟨(x6_2), (wrap64 (x22_2 + 1)), qy44, qy44, H', ⟨by have := HJ2.out; have := HK2.out; omega⟩, ⟨by (with_reducible repeat (first | apply Kd.S_alloc | apply Kd.S_drewN | apply Kd.S_drew)); exact HO_20.out⟩, ⟨by repeat (first | (with_reducible first | exact HB.out | apply below_alloc | apply pw_below_drewN | apply below_drew1) | exact HB.out)⟩⟩
        ·rw [if_neg c13] at H
         exact absurd H (by simp)
       ·rw [if_neg c12] at H
        exact absurd H (by simp)
      ·rw [if_neg c11] at H
       have c11b0 : decide (x22_2 < (t468.length : Int)) = false := decide_eq_false c11
       clear c11
       simp only [Option.some.injEq, Prod.mk.injEq] at H
       obtain ⟨rfl, rfl⟩ := H
       go_wp2
       go_ret2
       exact ⟨by first | rfl | (simp [errW_none, errW_some] <;> rfl) | (simp [*, errW_none, errW_some] <;> rfl), by repeat (first | (with_reducible first | exact HB.out | apply below_alloc | apply pw_below_drewN | apply below_drew1) | exact HB.out)⟩

/-! ### spec_CountSortedWithin: function 65 -/
def spec_CountSortedWithin.f (k : Nat) (a0 : Int) (a1 : Int) : Option (Int × Bool) := (spec_l10Good.f a0 a1).bind fun t474 => (if t474 = true then ((spec_l10Ends.f k 0 (wrap64 (2 * a0)) a1).bind fun t475 => (some (t475, true))) else (some (0, false)))
set_option maxHeartbeats 8000000 in
set_option maxRecDepth 100000 in
theorem spec_CountSortedWithin.calls (k : Nat) (a0 : Int) (a1 : Int) (r1 : Int) (r2 : Bool) (w : World) (h : spec_CountSortedWithin.f k a0 a1 = some (r1, r2)) :
  Calls Try.prog 65 #[.int .i64 a0, .int .i64 a1] w fun e w' => e = .returned (.tuple #[.int .i64 r1, .bool r2]) ∧ Below w.heap.size w w' := by
 have HB := Aside0.mk (Below.refl w.heap.size w)
 have H : ((spec_l10Good.f a0 a1).bind fun t474 => (if t474 = true then ((spec_l10Ends.f k 0 (wrap64 (2 * a0)) a1).bind fun t475 => (some (t475, true))) else (some (0, false)))) = some (r1, r2) := h
 clear h
 replace H := Option.bind_eq_some_iff.mp H
 obtain ⟨t474, A30, H⟩ := H
 replace H : (if t474 = true then ((spec_l10Ends.f k 0 (wrap64 (2 * a0)) a1).bind fun t475 => (some (t475, true))) else (some (0, false))) = some (r1, r2) := H
 have A3 := Aside0.mk A30
 clear A30
 by_cases c4 : t474 = true
 ·subst c4
  have H1 : ((spec_l10Ends.f k 0 (wrap64 (2 * a0)) a1).bind fun t475 => (some (t475, true))) = some (r1, r2) := by rw [if_pos rfl] at H; exact H
  clear H
  have H := H1
  clear H1
  replace H := Option.bind_eq_some_iff.mp H
  obtain ⟨t475, A50, H⟩ := H
  replace H : (some (t475, true)) = some (r1, r2) := H
  have A5 := Aside0.mk A50
  clear A50
  simp only [Option.some.injEq, Prod.mk.injEq] at H
  obtain ⟨rfl, rfl⟩ := H
  go_enter Try.func65, Try.ntmps65
  go_wp2_with (first | ((with_reducible refine gate_callee (f := 137) rfl ?_); refine goesL_ (some 8) rfl rfl Try.func137 (by kernel_rfl) rfl #[.int .i64 a0, .int .i64 a1] rfl qy15 ?_; (with_reducible refine (spec_l10Good.calls a0 a1 true _ A3.out).mono ?_); rintro e w' ⟨rfl, ⟨nd, rfl⟩⟩; refine ⟨_, rfl, ?_⟩) | ((with_reducible refine gate_callee (f := 138) rfl ?_); refine goesL_ (some 13) rfl rfl Try.func138 (by kernel_rfl) rfl #[.int .i64 0, .int .i64 (wrap64 (2 * a0)), .int .i64 a1] rfl qy15 ?_; (with_reducible refine (spec_l10Ends.calls k 0 (wrap64 (2 * a0)) a1 t475 _ A5.out).mono ?_); rintro e w6 ⟨rfl, hb⟩; refine ⟨_, rfl, ?_⟩; have n0_ := Aside0.mk (below_step qy16 hb); clear HB; have HB := n0_; clear n0_; (try clear hb); (try clear hb2); (try clear hk); (try clear hi)))
  go_ret2
  exact ⟨by first | rfl | (simp [errW_none, errW_some] <;> rfl) | (simp [*, errW_none, errW_some] <;> rfl), by repeat (first | (with_reducible first | exact HB.out | apply below_alloc | apply pw_below_drewN | apply below_drew1) | exact HB.out)⟩
 ·replace c4 := Bool.eq_false_iff.mpr c4
  subst c4
  have H1 : (some (0, false)) = some (r1, r2) := by rw [if_neg (show ¬ (false = true) by decide)] at H; exact H
  clear H
  have H := H1
  clear H1
  simp only [Option.some.injEq, Prod.mk.injEq] at H
  obtain ⟨rfl, rfl⟩ := H
  go_enter Try.func65, Try.ntmps65
  go_wp2_with (first | ((with_reducible refine gate_callee (f := 137) rfl ?_); refine goesL_ (some 8) rfl rfl Try.func137 (by kernel_rfl) rfl #[.int .i64 a0, .int .i64 a1] rfl qy15 ?_; (with_reducible refine (spec_l10Good.calls a0 a1 false _ A3.out).mono ?_); rintro e w' ⟨rfl, ⟨nd, rfl⟩⟩; refine ⟨_, rfl, ?_⟩))
  go_ret2
  exact ⟨by first | rfl | (simp [errW_none, errW_some] <;> rfl) | (simp [*, errW_none, errW_some] <;> rfl), by repeat (first | (with_reducible first | exact HB.out | apply below_alloc | apply pw_below_drewN | apply below_drew1) | exact HB.out)⟩

/-! ### spec_DrawWithinAt: function 66 -/
def spec_DrawWithinAt.f (k : Nat) (l0 : List Int) : Option (Int × Int × Int) := (spec_l1Cur_among.f l0 0 0 (([3, 4, 5, 2, 7, 6, 1, 0, 8] : List Int))).bind fun bt480 => ((spec_l1Cur_limit.f l0 bt480.2.1 bt480.2.2).bind fun bt483 => ((spec_l10Good.f bt480.1 bt483.1).bind fun t486 => (if t486 = true then ((spec_l10Ends.f k 0 (wrap64 (2 * bt480.1)) bt483.1).bind fun t487 => ((spec_l1Cur_pick.f l0 bt483.2.1 bt483.2.2 t487).bind fun bt488 => ((spec_l1Cur_pick.f l0 bt488.2.1 bt488.2.2 24).bind fun bt491 => ((spec_l1Cur_pick.f l0 bt491.2.1 bt491.2.2 24).bind fun bt494 => (some (bt480.1, bt483.1, wrap64 ((wrap64 (bt488.1 - (wrap64 (Int.tdiv bt491.1 23)))) + (wrap64 (Int.tdiv bt494.1 23))))))))) else ((spec_l1Cur_pick.f l0 bt483.2.1 bt483.2.2 1).bind fun bt497 => ((spec_l1Cur_pick.f l0 bt497.2.1 bt497.2.2 24).bind fun bt500 => ((spec_l1Cur_pick.f l0 bt500.2.1 bt500.2.2 24).bind fun bt503 => (some (bt480.1, bt483.1, wrap64 ((wrap64 (bt497.1 - (wrap64 (Int.tdiv bt500.1 23)))) + (wrap64 (Int.tdiv bt503.1 23)))))))))))
set_option maxHeartbeats 8000000 in
set_option maxRecDepth 100000 in
theorem spec_DrawWithinAt.calls (k : Nat) (A0 : Option Addr) (c0 : Nat) (l0 : List Int) (r1 : Int) (r2 : Int) (r3 : Int) (w : World) (hr0 : Kd.C (Kd.int .u8) w A0 l0.length l0) (hc0 : l0.length ≤ c0) (h : spec_DrawWithinAt.f k l0 = some (r1, r2, r3)) :
  Calls Try.prog 66 #[.slice A0 l0.length c0] w fun e w' => e = .returned (.tuple #[.int .i64 r1, .int .i64 r2, .int .i64 r3]) ∧ Below w.heap.size w w' := by
 have hu93 := Try.underlying93
 have HR0 := Aside0.mk hr0
 have HC0 := Aside0.mk hc0
 clear hr0 hc0
 have HB := Aside0.mk (Below.refl w.heap.size w)
 have H : ((spec_l1Cur_among.f l0 0 0 (([3, 4, 5, 2, 7, 6, 1, 0, 8] : List Int))).bind fun bt480 => ((spec_l1Cur_limit.f l0 bt480.2.1 bt480.2.2).bind fun bt483 => ((spec_l10Good.f bt480.1 bt483.1).bind fun t486 => (if t486 = true then ((spec_l10Ends.f k 0 (wrap64 (2 * bt480.1)) bt483.1).bind fun t487 => ((spec_l1Cur_pick.f l0 bt483.2.1 bt483.2.2 t487).bind fun bt488 => ((spec_l1Cur_pick.f l0 bt488.2.1 bt488.2.2 24).bind fun bt491 => ((spec_l1Cur_pick.f l0 bt491.2.1 bt491.2.2 24).bind fun bt494 => (some (bt480.1, bt483.1, wrap64 ((wrap64 (bt488.1 - (wrap64 (Int.tdiv bt491.1 23)))) + (wrap64 (Int.tdiv bt494.1 23))))))))) else ((spec_l1Cur_pick.f l0 bt483.2.1 bt483.2.2 1).bind fun bt497 => ((spec_l1Cur_pick.f l0 bt497.2.1 bt497.2.2 24).bind fun bt500 => ((spec_l1Cur_pick.f l0 bt500.2.1 bt500.2.2 24).bind fun bt503 => (some (bt480.1, bt483.1, wrap64 ((wrap64 (bt497.1 - (wrap64 (Int.tdiv bt500.1 23)))) + (wrap64 (Int.tdiv bt503.1 23)))))))))))) = some (r1, r2, r3) := h
 clear h
 obtain ⟨y477, hy477⟩ : ∃ y_ : List Int, y_ = (([3, 4, 5, 2, 7, 6, 1, 0, 8] : List Int)) := ⟨_, rfl⟩
 replace H : ((spec_l1Cur_among.f l0 0 0 y477).bind fun bt480 => ((spec_l1Cur_limit.f l0 bt480.2.1 bt480.2.2).bind fun bt483 => ((spec_l10Good.f bt480.1 bt483.1).bind fun t486 => (if t486 = true then ((spec_l10Ends.f k 0 (wrap64 (2 * bt480.1)) bt483.1).bind fun t487 => ((spec_l1Cur_pick.f l0 bt483.2.1 bt483.2.2 t487).bind fun bt488 => ((spec_l1Cur_pick.f l0 bt488.2.1 bt488.2.2 24).bind fun bt491 => ((spec_l1Cur_pick.f l0 bt491.2.1 bt491.2.2 24).bind fun bt494 => (some (bt480.1, bt483.1, wrap64 ((wrap64 (bt488.1 - (wrap64 (Int.tdiv bt491.1 23)))) + (wrap64 (Int.tdiv bt494.1 23))))))))) else ((spec_l1Cur_pick.f l0 bt483.2.1 bt483.2.2 1).bind fun bt497 => ((spec_l1Cur_pick.f l0 bt497.2.1 bt497.2.2 24).bind fun bt500 => ((spec_l1Cur_pick.f l0 bt500.2.1 bt500.2.2 24).bind fun bt503 => (some (bt480.1, bt483.1, wrap64 ((wrap64 (bt497.1 - (wrap64 (Int.tdiv bt500.1 23)))) + (wrap64 (Int.tdiv bt503.1 23)))))))))))) = some (r1, r2, r3) := by first | (rw [hy477]; with_reducible exact H) | (have H2_ := (Option.bind_some _ _).symm.trans H; rw [hy477]; with_reducible exact H2_) | (have H2_ := (Option.bind_some _ _).symm.trans H; with_reducible exact H2_) | with_reducible exact H | (rw [hy477]; exact H) | exact H
 have Ny477 := Aside0.mk hy477
 clear hy477
 replace H := Option.bind_eq_some_iff.mp H
 obtain ⟨⟨t480, t481, t482⟩, A20, H⟩ := H
 replace H : ((spec_l1Cur_limit.f l0 t481 t482).bind fun bt483 => ((spec_l10Good.f t480 bt483.1).bind fun t486 => (if t486 = true then ((spec_l10Ends.f k 0 (wrap64 (2 * t480)) bt483.1).bind fun t487 => ((spec_l1Cur_pick.f l0 bt483.2.1 bt483.2.2 t487).bind fun bt488 => ((spec_l1Cur_pick.f l0 bt488.2.1 bt488.2.2 24).bind fun bt491 => ((spec_l1Cur_pick.f l0 bt491.2.1 bt491.2.2 24).bind fun bt494 => (some (t480, bt483.1, wrap64 ((wrap64 (bt488.1 - (wrap64 (Int.tdiv bt491.1 23)))) + (wrap64 (Int.tdiv bt494.1 23))))))))) else ((spec_l1Cur_pick.f l0 bt483.2.1 bt483.2.2 1).bind fun bt497 => ((spec_l1Cur_pick.f l0 bt497.2.1 bt497.2.2 24).bind fun bt500 => ((spec_l1Cur_pick.f l0 bt500.2.1 bt500.2.2 24).bind fun bt503 => (some (t480, bt483.1, wrap64 ((wrap64 (bt497.1 - (wrap64 (Int.tdiv bt500.1 23)))) + (wrap64 (Int.tdiv bt503.1 23))))))))))) = some (r1, r2, r3) := H
 have A2 := Aside0.mk A20
 clear A20
 replace H := Option.bind_eq_some_iff.mp H
 obtain ⟨⟨t483, t484, t485⟩, A30, H⟩ := H
 replace H : ((spec_l10Good.f t480 t483).bind fun t486 => (if t486 = true then ((spec_l10Ends.f k 0 (wrap64 (2 * t480)) t483).bind fun t487 => ((spec_l1Cur_pick.f l0 t484 t485 t487).bind fun bt488 => ((spec_l1Cur_pick.f l0 bt488.2.1 bt488.2.2 24).bind fun bt491 => ((spec_l1Cur_pick.f l0 bt491.2.1 bt491.2.2 24).bind fun bt494 => (some (t480, t483, wrap64 ((wrap64 (bt488.1 - (wrap64 (Int.tdiv bt491.1 23)))) + (wrap64 (Int.tdiv bt494.1 23))))))))) else ((spec_l1Cur_pick.f l0 t484 t485 1).bind fun bt497 => ((spec_l1Cur_pick.f l0 bt497.2.1 bt497.2.2 24).bind fun bt500 => ((spec_l1Cur_pick.f l0 bt500.2.1 bt500.2.2 24).bind fun bt503 => (some (t480, t483, wrap64 ((wrap64 (bt497.1 - (wrap64 (Int.tdiv bt500.1 23)))) + (wrap64 (Int.tdiv bt503.1 23)))))))))) = some (r1, r2, r3) := H
 have A3 := Aside0.mk A30
 clear A30
 replace H := Option.bind_eq_some_iff.mp H
 obtain ⟨t486, A40, H⟩ := H
 replace H : (if t486 = true then ((spec_l10Ends.f k 0 (wrap64 (2 * t480)) t483).bind fun t487 => ((spec_l1Cur_pick.f l0 t484 t485 t487).bind fun bt488 => ((spec_l1Cur_pick.f l0 bt488.2.1 bt488.2.2 24).bind fun bt491 => ((spec_l1Cur_pick.f l0 bt491.2.1 bt491.2.2 24).bind fun bt494 => (some (t480, t483, wrap64 ((wrap64 (bt488.1 - (wrap64 (Int.tdiv bt491.1 23)))) + (wrap64 (Int.tdiv bt494.1 23))))))))) else ((spec_l1Cur_pick.f l0 t484 t485 1).bind fun bt497 => ((spec_l1Cur_pick.f l0 bt497.2.1 bt497.2.2 24).bind fun bt500 => ((spec_l1Cur_pick.f l0 bt500.2.1 bt500.2.2 24).bind fun bt503 => (some (t480, t483, wrap64 ((wrap64 (bt497.1 - (wrap64 (Int.tdiv bt500.1 23)))) + (wrap64 (Int.tdiv bt503.1 23))))))))) = some (r1, r2, r3) := H
 have A4 := Aside0.mk A40
 clear A40
 by_cases c5 : t486 = true
 ·subst c5
  have H1 : ((spec_l10Ends.f k 0 (wrap64 (2 * t480)) t483).bind fun t487 => ((spec_l1Cur_pick.f l0 t484 t485 t487).bind fun bt488 => ((spec_l1Cur_pick.f l0 bt488.2.1 bt488.2.2 24).bind fun bt491 => ((spec_l1Cur_pick.f l0 bt491.2.1 bt491.2.2 24).bind fun bt494 => (some (t480, t483, wrap64 ((wrap64 (bt488.1 - (wrap64 (Int.tdiv bt491.1 23)))) + (wrap64 (Int.tdiv bt494.1 23))))))))) = some (r1, r2, r3) := by rw [if_pos rfl] at H; exact H
  clear H
  have H := H1
  clear H1
  replace H := Option.bind_eq_some_iff.mp H
  obtain ⟨t487, A60, H⟩ := H
  replace H : ((spec_l1Cur_pick.f l0 t484 t485 t487).bind fun bt488 => ((spec_l1Cur_pick.f l0 bt488.2.1 bt488.2.2 24).bind fun bt491 => ((spec_l1Cur_pick.f l0 bt491.2.1 bt491.2.2 24).bind fun bt494 => (some (t480, t483, wrap64 ((wrap64 (bt488.1 - (wrap64 (Int.tdiv bt491.1 23)))) + (wrap64 (Int.tdiv bt494.1 23)))))))) = some (r1, r2, r3) := H
  have A6 := Aside0.mk A60
  clear A60
  replace H := Option.bind_eq_some_iff.mp H
  obtain ⟨⟨t488, t489, t490⟩, A70, H⟩ := H
  replace H : ((spec_l1Cur_pick.f l0 t489 t490 24).bind fun bt491 => ((spec_l1Cur_pick.f l0 bt491.2.1 bt491.2.2 24).bind fun bt494 => (some (t480, t483, wrap64 ((wrap64 (t488 - (wrap64 (Int.tdiv bt491.1 23)))) + (wrap64 (Int.tdiv bt494.1 23))))))) = some (r1, r2, r3) := H
  have A7 := Aside0.mk A70
  clear A70
  replace H := Option.bind_eq_some_iff.mp H
  obtain ⟨⟨t491, t492, t493⟩, A80, H⟩ := H
  replace H : ((spec_l1Cur_pick.f l0 t492 t493 24).bind fun bt494 => (some (t480, t483, wrap64 ((wrap64 (t488 - (wrap64 (Int.tdiv t491 23)))) + (wrap64 (Int.tdiv bt494.1 23)))))) = some (r1, r2, r3) := H
  have A8 := Aside0.mk A80
  clear A80
  replace H := Option.bind_eq_some_iff.mp H
  obtain ⟨⟨t494, t495, t496⟩, A90, H⟩ := H
  replace H : (some (t480, t483, wrap64 ((wrap64 (t488 - (wrap64 (Int.tdiv t491 23)))) + (wrap64 (Int.tdiv t494 23))))) = some (r1, r2, r3) := H
  have A9 := Aside0.mk A90
  clear A90
  simp only [Option.some.injEq, Prod.mk.injEq] at H
  obtain ⟨rfl, rfl, rfl⟩ := H
  go_enter Try.func66, Try.ntmps66
  go_wp2_with (first | ((with_reducible refine gate_dst (N := 11) rfl ?_); refine box_event ?hg (N := 11) ?hd (cs := #[.slice A0 l0.length c0, .int .i64 0, .int .u64 0]) (t := 93) ?hr ?_; (case hd => rfl); (case hg => rfl); (case hr => first | (go_simp; done) | (go_simp; rfl)); intro gb476 hg w10 hbox hb; have n0_ := Aside0.mk (below_step qy16 hb); have n1_ := Aside0.mk ((show IsS93 w w10 gb476 l0 0 0 from ⟨_, _, hbox, (by rw [hg]; exact (below_size qy16) : w.heap.size ≤ gb476), HR0.out⟩)); clear HB; have HB := n0_; have HI476 := n1_; clear n0_ n1_; clear hb hbox hg) | ((with_reducible refine gate_dst (N := 13) rfl ?_); refine Kd.R_lit (Kd.int .i64) _ 3 ?hg (N := 13) ?hd (xs := ([3, 4, 5, 2, 7, 6, 1, 0, 8] : List Int)) (inner := [.int .i64 3, .int .i64 4, .int .i64 5, .int .i64 2, .int .i64 7, .int .i64 6, .int .i64 1, .int .i64 0, .int .i64 8]) (ok := fun _ => True) (okp := fun _ => True) ?hr ?hp (fun _ hk => hk) trivial (Below.refl _ _) (Nat.le_refl _) (by simp) ?_; (case hd => rfl); (case hg => rfl); (case hr => first | (go_simp; done) | (go_simp; rfl)); (case hp => exact (Reps.one (show Kd.M (Kd.int .i64) _ _ _ 3 [.int .i64 3] from rfl) (Reps.one (show Kd.M (Kd.int .i64) _ _ _ 4 [.int .i64 4] from rfl) (Reps.one (show Kd.M (Kd.int .i64) _ _ _ 5 [.int .i64 5] from rfl) (Reps.one (show Kd.M (Kd.int .i64) _ _ _ 2 [.int .i64 2] from rfl) (Reps.one (show Kd.M (Kd.int .i64) _ _ _ 7 [.int .i64 7] from rfl) (Reps.one (show Kd.M (Kd.int .i64) _ _ _ 6 [.int .i64 6] from rfl) (Reps.one (show Kd.M (Kd.int .i64) _ _ _ 1 [.int .i64 1] from rfl) (Reps.one (show Kd.M (Kd.int .i64) _ _ _ 0 [.int .i64 0] from rfl) (Reps.one (show Kd.M (Kd.int .i64) _ _ _ 8 [.int .i64 8] from rfl) (Reps.none _ _))))))))))); intro v478 w11 ho12 hb hg_ hnew_; clear hg_ hnew_; (first | rw [← Ny477.out] at ho12 | (simp only [Int.reduceToNat] at ho12; rw [← Ny477.out] at ho12)); have n0_ := Aside0.mk (Kd.R_lower ho12 (below_size qy6)); have n1_ := Aside0.mk (IsS93.below qy7 hb); have n2_ := Aside0.mk (below_step qy6 hb); clear HI476; clear HB; have HO479 := n0_; have HI476 := n1_; have HB := n2_; clear n0_ n1_ n2_; clear hb ho12; obtain ⟨Ao13, co13, eo13⟩ := Kd.R_slice HO479.out; subst eo13) | ((with_reducible refine gate_callee (f := 118) rfl ?_); refine goesL_ (some 14) rfl rfl Try.func118 (by kernel_rfl) rfl #[.pointer (some ⟨gb476, 0, none⟩), .slice Ao13 y477.length co13] rfl qy15 ?_; (with_reducible refine (spec_l1Cur_among.calls gb476 l0 0 0 _ _ y477 t480 t481 t482 w _ ?side1 ?side2 ?side3 ?side4 ?side5 A2.out).mono ?_); (case side1 => repeat (first | (with_reducible first | exact HI476.out | apply IsS93.alloc | apply IsS93.drewN | apply IsS93.drew | apply IsS93.set_1 | apply IsS93.set_2) | exact HI476.out)); (case side2 => repeat (first | (with_reducible first | exact HB.out | apply below_alloc | apply pw_below_drewN | apply below_drew1 | refine below_set ?_ (IsS93.ge HI476.out)) | exact HB.out)); (case side3 => repeat (first | exact (Kd.R_reads' HO479.out).2.2 | (with_reducible refine Kd.C_alloc ?_ _) | (with_reducible refine Kd.C_drewN ?_ _) | (with_reducible refine Kd.C_drew ?_))); (case side4 => exact (Kd.R_reads' HO479.out).2.1); (case side5 => exact far_slice (IsS93.own_ne HI476.out HO479.out (by decide))); rintro e w14 ⟨rfl, hi, hb, hk⟩; refine ⟨_, rfl, ?_⟩; have n0_ := Aside0.mk (Kd.R_mono (Kd.R_keep (IsS93.apart (show IsS93 w _ gb476 l0 0 0 from by repeat (first | (with_reducible first | exact HI476.out | apply IsS93.alloc | apply IsS93.drewN | apply IsS93.drew | apply IsS93.set_1 | apply IsS93.set_2) | exact HI476.out)) qy22 (by decide)) hk (fun _ h => h.2)) (fun _ h => h.1)); have n1_ := Aside0.mk (hb); have n2_ := Aside0.mk (hi); clear HO479; clear HB; clear HI476; have HO479 := n0_; have HB := n1_; have HI476 := n2_; clear n0_ n1_ n2_; (try clear hb); (try clear hb2); (try clear hk); (try clear hi)) | ((with_reducible refine gate_callee (f := 123) rfl ?_); refine goesL_ (some 16) rfl rfl Try.func123 (by kernel_rfl) rfl #[.pointer (some ⟨gb476, 0, none⟩)] rfl qy15 ?_; (with_reducible refine (spec_l1Cur_limit.calls gb476 l0 t481 t482 t483 t484 t485 w _ ?side1 ?side2 A3.out).mono ?_); (case side1 => repeat (first | (with_reducible first | exact HI476.out | apply IsS93.alloc | apply IsS93.drewN | apply IsS93.drew | apply IsS93.set_1 | apply IsS93.set_2) | exact HI476.out)); (case side2 => repeat (first | (with_reducible first | exact HB.out | apply below_alloc | apply pw_below_drewN | apply below_drew1 | refine below_set ?_ (IsS93.ge HI476.out)) | exact HB.out)); rintro e w15 ⟨rfl, hi, hb, hk⟩; refine ⟨_, rfl, ?_⟩; have n0_ := Aside0.mk (Kd.R_mono (Kd.R_keep (IsS93.apart (show IsS93 w _ gb476 l0 t481 t482 from by repeat (first | (with_reducible first | exact HI476.out | apply IsS93.alloc | apply IsS93.drewN | apply IsS93.drew | apply IsS93.set_1 | apply IsS93.set_2) | exact HI476.out)) qy22 (by decide)) hk (fun _ h => h.2)) (fun _ h => h.1)); have n1_ := Aside0.mk (hb); have n2_ := Aside0.mk (hi); clear HO479; clear HB; clear HI476; have HO479 := n0_; have HB := n1_; have HI476 := n2_; clear n0_ n1_ n2_; (try clear hb); (try clear hb2); (try clear hk); (try clear hi)) | ((with_reducible refine gate_callee (f := 137) rfl ?_); refine goesL_ (some 19) rfl rfl Try.func137 (by kernel_rfl) rfl #[.int .i64 t480, .int .i64 t483] rfl qy15 ?_; (with_reducible refine (spec_l10Good.calls t480 t483 true _ A4.out).mono ?_); rintro e w' ⟨rfl, ⟨nd, rfl⟩⟩; refine ⟨_, rfl, ?_⟩) | ((with_reducible refine gate_callee (f := 138) rfl ?_); refine goesL_ (some 23) rfl rfl Try.func138 (by kernel_rfl) rfl #[.int .i64 0, .int .i64 (wrap64 (2 * t480)), .int .i64 t483] rfl qy15 ?_; (with_reducible refine (spec_l10Ends.calls k 0 (wrap64 (2 * t480)) t483 t487 _ A6.out).mono ?_); rintro e w16 ⟨rfl, hb⟩; refine ⟨_, rfl, ?_⟩; have n0_ := Aside0.mk (Kd.R_below qy22 hb); have n1_ := Aside0.mk (IsS93.below qy7 hb); have n2_ := Aside0.mk (below_step qy6 hb); clear HO479; clear HI476; clear HB; have HO479 := n0_; have HI476 := n1_; have HB := n2_; clear n0_ n1_ n2_; (try clear hb); (try clear hb2); (try clear hk); (try clear hi)) | ((with_reducible refine gate_callee (f := 140) rfl ?_); refine goesL_ (some 28) rfl rfl Try.func140 (by kernel_rfl) rfl #[.pointer (some ⟨gb476, 0, none⟩), .int .i64 t487] rfl qy15 ?_; (with_reducible refine (spec_l1Cur_pick.calls gb476 l0 t484 t485 t487 t488 t489 t490 w _ ?side1 ?side2 A7.out).mono ?_); (case side1 => repeat (first | (with_reducible first | exact HI476.out | apply IsS93.alloc | apply IsS93.drewN | apply IsS93.drew | apply IsS93.set_1 | apply IsS93.set_2) | exact HI476.out)); (case side2 => repeat (first | (with_reducible first | exact HB.out | apply below_alloc | apply pw_below_drewN | apply below_drew1 | refine below_set ?_ (IsS93.ge HI476.out)) | exact HB.out)); rintro e w17 ⟨rfl, hi, hb, hk⟩; refine ⟨_, rfl, ?_⟩; have n0_ := Aside0.mk (Kd.R_mono (Kd.R_keep (IsS93.apart (show IsS93 w _ gb476 l0 t484 t485 from by repeat (first | (with_reducible first | exact HI476.out | apply IsS93.alloc | apply IsS93.drewN | apply IsS93.drew | apply IsS93.set_1 | apply IsS93.set_2) | exact HI476.out)) qy22 (by decide)) hk (fun _ h => h.2)) (fun _ h => h.1)); have n1_ := Aside0.mk (hb); have n2_ := Aside0.mk (hi); clear HO479; clear HB; clear HI476; have HO479 := n0_; have HB := n1_; have HI476 := n2_; clear n0_ n1_ n2_; (try clear hb); (try clear hb2); (try clear hk); (try clear hi)) | ((with_reducible refine gate_callee (f := 140) rfl ?_); refine goesL_ (some 30) rfl rfl Try.func140 (by kernel_rfl) rfl #[.pointer (some ⟨gb476, 0, none⟩), .int .i64 24] rfl qy15 ?_; (with_reducible refine (spec_l1Cur_pick.calls gb476 l0 t489 t490 24 t491 t492 t493 w _ ?side1 ?side2 A8.out).mono ?_); (case side1 => repeat (first | (with_reducible first | exact HI476.out | apply IsS93.alloc | apply IsS93.drewN | apply IsS93.drew | apply IsS93.set_1 | apply IsS93.set_2) | exact HI476.out)); (case side2 => repeat (first | (with_reducible first | exact HB.out | apply below_alloc | apply pw_below_drewN | apply below_drew1 | refine below_set ?_ (IsS93.ge HI476.out)) | exact HB.out)); rintro e w18 ⟨rfl, hi, hb, hk⟩; refine ⟨_, rfl, ?_⟩; have n0_ := Aside0.mk (Kd.R_mono (Kd.R_keep (IsS93.apart (show IsS93 w _ gb476 l0 t489 t490 from by repeat (first | (with_reducible first | exact HI476.out | apply IsS93.alloc | apply IsS93.drewN | apply IsS93.drew | apply IsS93.set_1 | apply IsS93.set_2) | exact HI476.out)) qy22 (by decide)) hk (fun _ h => h.2)) (fun _ h => h.1)); have n1_ := Aside0.mk (hb); have n2_ := Aside0.mk (hi); clear HO479; clear HB; clear HI476; have HO479 := n0_; have HB := n1_; have HI476 := n2_; clear n0_ n1_ n2_; (try clear hb); (try clear hb2); (try clear hk); (try clear hi)) | ((with_reducible refine gate_callee (f := 140) rfl ?_); refine goesL_ (some 34) rfl rfl Try.func140 (by kernel_rfl) rfl #[.pointer (some ⟨gb476, 0, none⟩), .int .i64 24] rfl qy15 ?_; (with_reducible refine (spec_l1Cur_pick.calls gb476 l0 t492 t493 24 t494 t495 t496 w _ ?side1 ?side2 A9.out).mono ?_); (case side1 => repeat (first | (with_reducible first | exact HI476.out | apply IsS93.alloc | apply IsS93.drewN | apply IsS93.drew | apply IsS93.set_1 | apply IsS93.set_2) | exact HI476.out)); (case side2 => repeat (first | (with_reducible first | exact HB.out | apply below_alloc | apply pw_below_drewN | apply below_drew1 | refine below_set ?_ (IsS93.ge HI476.out)) | exact HB.out)); rintro e w19 ⟨rfl, hi, hb, hk⟩; refine ⟨_, rfl, ?_⟩; have n0_ := Aside0.mk (Kd.R_mono (Kd.R_keep (IsS93.apart (show IsS93 w _ gb476 l0 t492 t493 from by repeat (first | (with_reducible first | exact HI476.out | apply IsS93.alloc | apply IsS93.drewN | apply IsS93.drew | apply IsS93.set_1 | apply IsS93.set_2) | exact HI476.out)) qy22 (by decide)) hk (fun _ h => h.2)) (fun _ h => h.1)); have n1_ := Aside0.mk (hb); have n2_ := Aside0.mk (hi); clear HO479; clear HB; clear HI476; have HO479 := n0_; have HB := n1_; have HI476 := n2_; clear n0_ n1_ n2_; (try clear hb); (try clear hb2); (try clear hk); (try clear hi)))
  go_ret3
  exact ⟨by first | rfl | (simp [errW_none, errW_some] <;> rfl) | (simp [*, errW_none, errW_some] <;> rfl), by repeat (first | (with_reducible first | exact HB.out | apply below_alloc | apply pw_below_drewN | apply below_drew1 | refine below_set ?_ (IsS93.ge HI476.out)) | exact HB.out)⟩
 ·replace c5 := Bool.eq_false_iff.mpr c5
  subst c5
  have H1 : ((spec_l1Cur_pick.f l0 t484 t485 1).bind fun bt497 => ((spec_l1Cur_pick.f l0 bt497.2.1 bt497.2.2 24).bind fun bt500 => ((spec_l1Cur_pick.f l0 bt500.2.1 bt500.2.2 24).bind fun bt503 => (some (t480, t483, wrap64 ((wrap64 (bt497.1 - (wrap64 (Int.tdiv bt500.1 23)))) + (wrap64 (Int.tdiv bt503.1 23)))))))) = some (r1, r2, r3) := by rw [if_neg (show ¬ (false = true) by decide)] at H; exact H
  clear H
  have H := H1
  clear H1
  replace H := Option.bind_eq_some_iff.mp H
  obtain ⟨⟨t497, t498, t499⟩, A200, H⟩ := H
  replace H : ((spec_l1Cur_pick.f l0 t498 t499 24).bind fun bt500 => ((spec_l1Cur_pick.f l0 bt500.2.1 bt500.2.2 24).bind fun bt503 => (some (t480, t483, wrap64 ((wrap64 (t497 - (wrap64 (Int.tdiv bt500.1 23)))) + (wrap64 (Int.tdiv bt503.1 23))))))) = some (r1, r2, r3) := H
  have A20 := Aside0.mk A200
  clear A200
  replace H := Option.bind_eq_some_iff.mp H
  obtain ⟨⟨t500, t501, t502⟩, A210, H⟩ := H
  replace H : ((spec_l1Cur_pick.f l0 t501 t502 24).bind fun bt503 => (some (t480, t483, wrap64 ((wrap64 (t497 - (wrap64 (Int.tdiv t500 23)))) + (wrap64 (Int.tdiv bt503.1 23)))))) = some (r1, r2, r3) := H
  have A21 := Aside0.mk A210
  clear A210
  replace H := Option.bind_eq_some_iff.mp H
  obtain ⟨⟨t503, t504, t505⟩, A220, H⟩ := H
  replace H : (some (t480, t483, wrap64 ((wrap64 (t497 - (wrap64 (Int.tdiv t500 23)))) + (wrap64 (Int.tdiv t503 23))))) = some (r1, r2, r3) := H
  have A22 := Aside0.mk A220
  clear A220
  simp only [Option.some.injEq, Prod.mk.injEq] at H
  obtain ⟨rfl, rfl, rfl⟩ := H
  go_enter Try.func66, Try.ntmps66
  go_wp2_with (first | ((with_reducible refine gate_dst (N := 11) rfl ?_); refine box_event ?hg (N := 11) ?hd (cs := #[.slice A0 l0.length c0, .int .i64 0, .int .u64 0]) (t := 93) ?hr ?_; (case hd => rfl); (case hg => rfl); (case hr => first | (go_simp; done) | (go_simp; rfl)); intro gb476 hg w23 hbox hb; have n0_ := Aside0.mk (below_step qy16 hb); have n1_ := Aside0.mk ((show IsS93 w w23 gb476 l0 0 0 from ⟨_, _, hbox, (by rw [hg]; exact (below_size qy16) : w.heap.size ≤ gb476), HR0.out⟩)); clear HB; have HB := n0_; have HI476 := n1_; clear n0_ n1_; clear hb hbox hg) | ((with_reducible refine gate_dst (N := 13) rfl ?_); refine Kd.R_lit (Kd.int .i64) _ 3 ?hg (N := 13) ?hd (xs := ([3, 4, 5, 2, 7, 6, 1, 0, 8] : List Int)) (inner := [.int .i64 3, .int .i64 4, .int .i64 5, .int .i64 2, .int .i64 7, .int .i64 6, .int .i64 1, .int .i64 0, .int .i64 8]) (ok := fun _ => True) (okp := fun _ => True) ?hr ?hp (fun _ hk => hk) trivial (Below.refl _ _) (Nat.le_refl _) (by simp) ?_; (case hd => rfl); (case hg => rfl); (case hr => first | (go_simp; done) | (go_simp; rfl)); (case hp => exact (Reps.one (show Kd.M (Kd.int .i64) _ _ _ 3 [.int .i64 3] from rfl) (Reps.one (show Kd.M (Kd.int .i64) _ _ _ 4 [.int .i64 4] from rfl) (Reps.one (show Kd.M (Kd.int .i64) _ _ _ 5 [.int .i64 5] from rfl) (Reps.one (show Kd.M (Kd.int .i64) _ _ _ 2 [.int .i64 2] from rfl) (Reps.one (show Kd.M (Kd.int .i64) _ _ _ 7 [.int .i64 7] from rfl) (Reps.one (show Kd.M (Kd.int .i64) _ _ _ 6 [.int .i64 6] from rfl) (Reps.one (show Kd.M (Kd.int .i64) _ _ _ 1 [.int .i64 1] from rfl) (Reps.one (show Kd.M (Kd.int .i64) _ _ _ 0 [.int .i64 0] from rfl) (Reps.one (show Kd.M (Kd.int .i64) _ _ _ 8 [.int .i64 8] from rfl) (Reps.none _ _))))))))))); intro v478 w24 ho25 hb hg_ hnew_; clear hg_ hnew_; (first | rw [← Ny477.out] at ho25 | (simp only [Int.reduceToNat] at ho25; rw [← Ny477.out] at ho25)); have n0_ := Aside0.mk (Kd.R_lower ho25 (below_size qy6)); have n1_ := Aside0.mk (IsS93.below qy7 hb); have n2_ := Aside0.mk (below_step qy6 hb); clear HI476; clear HB; have HO479 := n0_; have HI476 := n1_; have HB := n2_; clear n0_ n1_ n2_; clear hb ho25; obtain ⟨Ao26, co26, eo26⟩ := Kd.R_slice HO479.out; subst eo26) | ((with_reducible refine gate_callee (f := 118) rfl ?_); refine goesL_ (some 14) rfl rfl Try.func118 (by kernel_rfl) rfl #[.pointer (some ⟨gb476, 0, none⟩), .slice Ao26 y477.length co26] rfl qy15 ?_; (with_reducible refine (spec_l1Cur_among.calls gb476 l0 0 0 _ _ y477 t480 t481 t482 w _ ?side1 ?side2 ?side3 ?side4 ?side5 A2.out).mono ?_); (case side1 => repeat (first | (with_reducible first | exact HI476.out | apply IsS93.alloc | apply IsS93.drewN | apply IsS93.drew | apply IsS93.set_1 | apply IsS93.set_2) | exact HI476.out)); (case side2 => repeat (first | (with_reducible first | exact HB.out | apply below_alloc | apply pw_below_drewN | apply below_drew1 | refine below_set ?_ (IsS93.ge HI476.out)) | exact HB.out)); (case side3 => repeat (first | exact (Kd.R_reads' HO479.out).2.2 | (with_reducible refine Kd.C_alloc ?_ _) | (with_reducible refine Kd.C_drewN ?_ _) | (with_reducible refine Kd.C_drew ?_))); (case side4 => exact (Kd.R_reads' HO479.out).2.1); (case side5 => exact far_slice (IsS93.own_ne HI476.out HO479.out (by decide))); rintro e w27 ⟨rfl, hi, hb, hk⟩; refine ⟨_, rfl, ?_⟩; have n0_ := Aside0.mk (Kd.R_mono (Kd.R_keep (IsS93.apart (show IsS93 w _ gb476 l0 0 0 from by repeat (first | (with_reducible first | exact HI476.out | apply IsS93.alloc | apply IsS93.drewN | apply IsS93.drew | apply IsS93.set_1 | apply IsS93.set_2) | exact HI476.out)) qy22 (by decide)) hk (fun _ h => h.2)) (fun _ h => h.1)); have n1_ := Aside0.mk (hb); have n2_ := Aside0.mk (hi); clear HO479; clear HB; clear HI476; have HO479 := n0_; have HB := n1_; have HI476 := n2_; clear n0_ n1_ n2_; (try clear hb); (try clear hb2); (try clear hk); (try clear hi)) | ((with_reducible refine gate_callee (f := 123) rfl ?_); refine goesL_ (some 16) rfl rfl Try.func123 (by kernel_rfl) rfl #[.pointer (some ⟨gb476, 0, none⟩)] rfl qy15 ?_; (with_reducible refine (spec_l1Cur_limit.calls gb476 l0 t481 t482 t483 t484 t485 w _ ?side1 ?side2 A3.out).mono ?_); (case side1 => repeat (first | (with_reducible first | exact HI476.out | apply IsS93.alloc | apply IsS93.drewN | apply IsS93.drew | apply IsS93.set_1 | apply IsS93.set_2) | exact HI476.out)); (case side2 => repeat (first | (with_reducible first | exact HB.out | apply below_alloc | apply pw_below_drewN | apply below_drew1 | refine below_set ?_ (IsS93.ge HI476.out)) | exact HB.out)); rintro e w28 ⟨rfl, hi, hb, hk⟩; refine ⟨_, rfl, ?_⟩; have n0_ := Aside0.mk (Kd.R_mono (Kd.R_keep (IsS93.apart (show IsS93 w _ gb476 l0 t481 t482 from by repeat (first | (with_reducible first | exact HI476.out | apply IsS93.alloc | apply IsS93.drewN | apply IsS93.drew | apply IsS93.set_1 | apply IsS93.set_2) | exact HI476.out)) qy22 (by decide)) hk (fun _ h => h.2)) (fun _ h => h.1)); have n1_ := Aside0.mk (hb); have n2_ := Aside0.mk (hi); clear HO479; clear HB; clear HI476; have HO479 := n0_; have HB := n1_; have HI476 := n2_; clear n0_ n1_ n2_; (try clear hb); (try clear hb2); (try clear hk); (try clear hi)) | ((with_reducible refine gate_callee (f := 137) rfl ?_); refine goesL_ (some 19) rfl rfl Try.func137 (by kernel_rfl) rfl #[.int .i64 t480, .int .i64 t483] rfl qy15 ?_; (with_reducible refine (spec_l10Good.calls t480 t483 false _ A4.out).mono ?_); rintro e w' ⟨rfl, ⟨nd, rfl⟩⟩; refine ⟨_, rfl, ?_⟩) | ((with_reducible refine gate_callee (f := 140) rfl ?_); refine goesL_ (some 28) rfl rfl Try.func140 (by kernel_rfl) rfl #[.pointer (some ⟨gb476, 0, none⟩), .int .i64 1] rfl qy15 ?_; (with_reducible refine (spec_l1Cur_pick.calls gb476 l0 t484 t485 1 t497 t498 t499 w _ ?side1 ?side2 A20.out).mono ?_); (case side1 => repeat (first | (with_reducible first | exact HI476.out | apply IsS93.alloc | apply IsS93.drewN | apply IsS93.drew | apply IsS93.set_1 | apply IsS93.set_2) | exact HI476.out)); (case side2 => repeat (first | (with_reducible first | exact HB.out | apply below_alloc | apply pw_below_drewN | apply below_drew1 | refine below_set ?_ (IsS93.ge HI476.out)) | exact HB.out)); rintro e w29 ⟨rfl, hi, hb, hk⟩; refine ⟨_, rfl, ?_⟩; have n0_ := Aside0.mk (Kd.R_mono (Kd.R_keep (IsS93.apart (show IsS93 w _ gb476 l0 t484 t485 from by repeat (first | (with_reducible first | exact HI476.out | apply IsS93.alloc | apply IsS93.drewN | apply IsS93.drew | apply IsS93.set_1 | apply IsS93.set_2) | exact HI476.out)) qy22 (by decide)) hk (fun _ h => h.2)) (fun _ h => h.1)); have n1_ := Aside0.mk (hb); have n2_ := Aside0.mk (hi); clear HO479; clear HB; clear HI476; have HO479 := n0_; have HB := n1_; have HI476 := n2_; clear n0_ n1_ n2_; (try clear hb); (try clear hb2); (try clear hk); (try clear hi)) | ((with_reducible refine gate_callee (f := 140) rfl ?_); refine goesL_ (some 30) rfl rfl Try.func140 (by kernel_rfl) rfl #[.pointer (some ⟨gb476, 0, none⟩), .int .i64 24] rfl qy15 ?_; (with_reducible refine (spec_l1Cur_pick.calls gb476 l0 t498 t499 24 t500 t501 t502 w _ ?side1 ?side2 A21.out).mono ?_); (case side1 => repeat (first | (with_reducible first | exact HI476.out | apply IsS93.alloc | apply IsS93.drewN | apply IsS93.drew | apply IsS93.set_1 | apply IsS93.set_2) | exact HI476.out)); (case side2 => repeat (first | (with_reducible first | exact HB.out | apply below_alloc | apply pw_below_drewN | apply below_drew1 | refine below_set ?_ (IsS93.ge HI476.out)) | exact HB.out)); rintro e w30 ⟨rfl, hi, hb, hk⟩; refine ⟨_, rfl, ?_⟩; have n0_ := Aside0.mk (Kd.R_mono (Kd.R_keep (IsS93.apart (show IsS93 w _ gb476 l0 t498 t499 from by repeat (first | (with_reducible first | exact HI476.out | apply IsS93.alloc | apply IsS93.drewN | apply IsS93.drew | apply IsS93.set_1 | apply IsS93.set_2) | exact HI476.out)) qy22 (by decide)) hk (fun _ h => h.2)) (fun _ h => h.1)); have n1_ := Aside0.mk (hb); have n2_ := Aside0.mk (hi); clear HO479; clear HB; clear HI476; have HO479 := n0_; have HB := n1_; have HI476 := n2_; clear n0_ n1_ n2_; (try clear hb); (try clear hb2); (try clear hk); (try clear hi)) | ((with_reducible refine gate_callee (f := 140) rfl ?_); refine goesL_ (some 34) rfl rfl Try.func140 (by kernel_rfl) rfl #[.pointer (some ⟨gb476, 0, none⟩), .int .i64 24] rfl qy15 ?_; (with_reducible refine (spec_l1Cur_pick.calls gb476 l0 t501 t502 24 t503 t504 t505 w _ ?side1 ?side2 A22.out).mono ?_); (case side1 => repeat (first | (with_reducible first | exact HI476.out | apply IsS93.alloc | apply IsS93.drewN | apply IsS93.drew | apply IsS93.set_1 | apply IsS93.set_2) | exact HI476.out)); (case side2 => repeat (first | (with_reducible first | exact HB.out | apply below_alloc | apply pw_below_drewN | apply below_drew1 | refine below_set ?_ (IsS93.ge HI476.out)) | exact HB.out)); rintro e w31 ⟨rfl, hi, hb, hk⟩; refine ⟨_, rfl, ?_⟩; have n0_ := Aside0.mk (Kd.R_mono (Kd.R_keep (IsS93.apart (show IsS93 w _ gb476 l0 t501 t502 from by repeat (first | (with_reducible first | exact HI476.out | apply IsS93.alloc | apply IsS93.drewN | apply IsS93.drew | apply IsS93.set_1 | apply IsS93.set_2) | exact HI476.out)) qy22 (by decide)) hk (fun _ h => h.2)) (fun _ h => h.1)); have n1_ := Aside0.mk (hb); have n2_ := Aside0.mk (hi); clear HO479; clear HB; clear HI476; have HO479 := n0_; have HB := n1_; have HI476 := n2_; clear n0_ n1_ n2_; (try clear hb); (try clear hb2); (try clear hk); (try clear hi)))
  go_ret3
  exact ⟨by first | rfl | (simp [errW_none, errW_some] <;> rfl) | (simp [*, errW_none, errW_some] <;> rfl), by repeat (first | (with_reducible first | exact HB.out | apply below_alloc | apply pw_below_drewN | apply below_drew1 | refine below_set ?_ (IsS93.ge HI476.out)) | exact HB.out)⟩

/-! ### impl_WithinAt: function 67 -/
def impl_WithinAt.j0 : Nat → Int → Int → Int → Bool → Option (ByteArray × Bool)
 | 0, _, _, _, _ => none
 | k + 1, x0, x1, x2, x16 => if x16 = true then (some ((⟨#[]⟩ : ByteArray), false)) else ((impl_within.f k x0 x1).bind fun t508 => (if x2 < 0 then (some ((⟨#[]⟩ : ByteArray), false)) else (if x2 ≥ (t508.length : Int) then (some ((⟨#[]⟩ : ByteArray), false)) else (if 0 ≤ x2 then (if x2 < (t508.length : Int) then (some (rdOf ByteArray.empty t508 x2, true)) else (none)) else (none)))))
def impl_WithinAt.f (k : Nat) (a0 : Int) (a1 : Int) (a2 : Int) : Option (ByteArray × Bool) := (impl_isSize.f a0).bind fun t506 => (if t506 = true then ((impl_isLimit.f a1).bind fun t507 => (impl_WithinAt.j0 k a0 a1 a2 (!t507))) else (impl_WithinAt.j0 k a0 a1 a2 true))
set_option maxHeartbeats 8000000 in
set_option maxRecDepth 100000 in
theorem impl_WithinAt.calls (k : Nat) (a0 : Int) (a1 : Int) (a2 : Int) (r1 : ByteArray) (r2 : Bool) (w : World) (h : impl_WithinAt.f k a0 a1 a2 = some (r1, r2)) :
  Calls Try.prog 67 #[.int .i64 a0, .int .i64 a1, .int .i64 a2] w fun e w' => e = .returned (.tuple #[.string r1, .bool r2]) ∧ Below w.heap.size w w' := by
 have HB := Aside0.mk (Below.refl w.heap.size w)
 have H : ((impl_isSize.f a0).bind fun t506 => (if t506 = true then ((impl_isLimit.f a1).bind fun t507 => (impl_WithinAt.j0 k a0 a1 a2 (!t507))) else (impl_WithinAt.j0 k a0 a1 a2 true))) = some (r1, r2) := h
 clear h
 have HC4 := Aside0.mk H
 clear H
 go_enter Try.func67, Try.ntmps67
 go_upto_region 1 with (fail)
 go_cut [16] (fun v16 wc => ∃ (kq : Nat) (x16_3 : Bool), v16 = .bool x16_3 ∧ Aside0 (impl_WithinAt.j0 kq a0 a1 a2 x16_3 = some (r1, r2)) ∧ Aside0 (kq ≤ k) ∧ Aside0 (Below w.heap.size w wc))
 case first =>
  have H := HC4.out
  clear HC4
  replace H := Option.bind_eq_some_iff.mp H
  obtain ⟨t506, A50, H⟩ := H
  replace H : (if t506 = true then ((impl_isLimit.f a1).bind fun t507 => (impl_WithinAt.j0 k a0 a1 a2 (!t507))) else (impl_WithinAt.j0 k a0 a1 a2 true)) = some (r1, r2) := H
  have A5 := Aside0.mk A50
  clear A50
  by_cases c6 : t506 = true
  ·subst c6
   have H1 : ((impl_isLimit.f a1).bind fun t507 => (impl_WithinAt.j0 k a0 a1 a2 (!t507))) = some (r1, r2) := by rw [if_pos rfl] at H; exact H
   clear H
   have H := H1
   clear H1
   replace H := Option.bind_eq_some_iff.mp H
   obtain ⟨t507, A70, H⟩ := H
   replace H : (impl_WithinAt.j0 k a0 a1 a2 (!t507)) = some (r1, r2) := H
   have A7 := Aside0.mk A70
   clear A70
   have H' := Aside0.mk H
   clear H
   go_wp2_with (first | ((with_reducible refine gate_callee (f := 135) rfl ?_); refine goesL_ (some 10) rfl rfl Try.func135 (by kernel_rfl) rfl #[.int .i64 a0] rfl qy15 ?_; (with_reducible refine (impl_isSize.calls a0 true _ A5.out).mono ?_); rintro e w' ⟨rfl, ⟨nd, rfl⟩⟩; refine ⟨_, rfl, ?_⟩) | (go_at_call 95; (with_reducible refine (impl_isLimit.calls a1 t507 _ A7.out).mono ?_); rintro e w' ⟨rfl, ⟨nd, rfl⟩⟩))
   go_meet
   case rel => exact ⟨_, (!t507), qy44, H', ⟨by first | omega | exact Nat.le_refl _⟩, ⟨by repeat (first | (with_reducible first | exact HB.out | apply below_alloc | apply pw_below_drewN | apply below_drew1) | exact HB.out)⟩⟩
  ·replace c6 := Bool.eq_false_iff.mpr c6
   subst c6
   have H1 : (impl_WithinAt.j0 k a0 a1 a2 true) = some (r1, r2) := by rw [if_neg (show ¬ (false = true) by decide)] at H; exact H
   clear H
   have H := H1
   clear H1
   have H' := Aside0.mk H
   clear H
   go_wp2_with (first | ((with_reducible refine gate_callee (f := 135) rfl ?_); refine goesL_ (some 10) rfl rfl Try.func135 (by kernel_rfl) rfl #[.int .i64 a0] rfl qy15 ?_; (with_reducible refine (impl_isSize.calls a0 false _ A5.out).mono ?_); rintro e w' ⟨rfl, ⟨nd, rfl⟩⟩; refine ⟨_, rfl, ?_⟩))
   go_meet
   case rel => exact ⟨_, (true), qy44, H', ⟨by first | omega | exact Nat.le_refl _⟩, ⟨by repeat (first | (with_reducible first | exact HB.out | apply below_alloc | apply pw_below_drewN | apply below_drew1) | exact HB.out)⟩⟩
 case rest =>
  clear HC4
  try clear c1
  try clear p2
  try clear c6
  obtain ⟨kq, x16_3, rfl, HA, HJ3, HB⟩ := hcut
  cases kq with
  | zero => exact absurd HA.out (by simp [impl_WithinAt.j0])
  | succ kj3 =>
   have H := HA.out
   clear HA
   simp only [impl_WithinAt.j0] at H
   by_cases c8 : x16_3 = true
   ·subst c8
    have H1 : (some ((⟨#[]⟩ : ByteArray), false)) = some (r1, r2) := by rw [if_pos rfl] at H; exact H
    clear H
    have H := H1
    clear H1
    simp only [Option.some.injEq, Prod.mk.injEq] at H
    obtain ⟨rfl, rfl⟩ := H
    go_wp2
    go_ret2
    exact ⟨by first | rfl | (simp [errW_none, errW_some] <;> rfl) | (simp [*, errW_none, errW_some] <;> rfl), by repeat (first | (with_reducible first | exact HB.out | apply below_alloc | apply pw_below_drewN | apply below_drew1) | exact HB.out)⟩
   ·replace c8 := Bool.eq_false_iff.mpr c8
    subst c8
    have H1 : ((impl_within.f kj3 a0 a1).bind fun t508 => (if a2 < 0 then (some ((⟨#[]⟩ : ByteArray), false)) else (if a2 ≥ (t508.length : Int) then (some ((⟨#[]⟩ : ByteArray), false)) else (if 0 ≤ a2 then (if a2 < (t508.length : Int) then (some (rdOf ByteArray.empty t508 a2, true)) else (none)) else (none))))) = some (r1, r2) := by rw [if_neg (show ¬ (false = true) by decide)] at H; exact H
    clear H
    have H := H1
    clear H1
    replace H := Option.bind_eq_some_iff.mp H
    obtain ⟨t508, A90, H⟩ := H
    replace H : (if a2 < 0 then (some ((⟨#[]⟩ : ByteArray), false)) else (if a2 ≥ (t508.length : Int) then (some ((⟨#[]⟩ : ByteArray), false)) else (if 0 ≤ a2 then (if a2 < (t508.length : Int) then (some (rdOf ByteArray.empty t508 a2, true)) else (none)) else (none)))) = some (r1, r2) := H
    have A9 := Aside0.mk A90
    clear A90
    by_cases c10 : a2 < 0
    ·rw [if_pos c10] at H
     have c10b0 : decide (a2 < 0) = true := decide_eq_true c10
     clear c10
     simp only [Option.some.injEq, Prod.mk.injEq] at H
     obtain ⟨rfl, rfl⟩ := H
     go_wp2_with (first | ((with_reducible refine gate_callee (f := 136) rfl ?_); refine goesL_ (some 19) rfl rfl Try.func136 (by kernel_rfl) rfl #[.int .i64 a0, .int .i64 a1] rfl qy15 ?_; (with_reducible refine (impl_within.calls kj3 a0 a1 t508 _ A9.out).mono ?_); rintro e w11 ⟨v509, rfl, ho0, hb⟩; refine ⟨_, rfl, ?_⟩; have n0_ := Aside0.mk (Kd.R_lower ho0 (below_size qy16)); have n1_ := Aside0.mk (below_step qy16 hb); clear HB; have HO510 := n0_; have HB := n1_; clear n0_ n1_; (try clear hb); (try clear hb2); (try clear hk); (try clear hi); (try clear ho0)))
     go_ret2
     exact ⟨by first | rfl | (simp [errW_none, errW_some] <;> rfl) | (simp [*, errW_none, errW_some] <;> rfl), by repeat (first | (with_reducible first | exact HB.out | apply below_alloc | apply pw_below_drewN | apply below_drew1) | exact HB.out)⟩
    ·rw [if_neg c10] at H
     have c10b0 : decide (a2 < 0) = false := decide_eq_false c10
     clear c10
     by_cases c12 : a2 ≥ (t508.length : Int)
     ·rw [if_pos c12] at H
      have c12b0 : decide ((t508.length : Int) ≤ a2) = true := decide_eq_true c12
      clear c12
      simp only [Option.some.injEq, Prod.mk.injEq] at H
      obtain ⟨rfl, rfl⟩ := H
      go_wp2_with (first | ((with_reducible refine gate_callee (f := 136) rfl ?_); refine goesL_ (some 19) rfl rfl Try.func136 (by kernel_rfl) rfl #[.int .i64 a0, .int .i64 a1] rfl qy15 ?_; (with_reducible refine (impl_within.calls kj3 a0 a1 t508 _ A9.out).mono ?_); rintro e w13 ⟨v509, rfl, ho0, hb⟩; refine ⟨_, rfl, ?_⟩; have n0_ := Aside0.mk (Kd.R_lower ho0 (below_size qy16)); have n1_ := Aside0.mk (below_step qy16 hb); clear HB; have HO510 := n0_; have HB := n1_; clear n0_ n1_; (try clear hb); (try clear hb2); (try clear hk); (try clear hi); (try clear ho0); obtain ⟨Ao14, co14, eo14⟩ := Kd.R_slice HO510.out; subst eo14))
      go_ret2
      exact ⟨by first | rfl | (simp [errW_none, errW_some] <;> rfl) | (simp [*, errW_none, errW_some] <;> rfl), by repeat (first | (with_reducible first | exact HB.out | apply below_alloc | apply pw_below_drewN | apply below_drew1) | exact HB.out)⟩
     ·rw [if_neg c12] at H
      have c12b0 : decide ((t508.length : Int) ≤ a2) = false := decide_eq_false c12
      clear c12
      by_cases c15 : 0 ≤ a2
      ·rw [if_pos c15] at H
       have c15b0 : decide (0 ≤ a2) = true := decide_eq_true c15
       clear c15
       by_cases c16 : a2 < (t508.length : Int)
       ·rw [if_pos c16] at H
        have c16b0 : decide (a2 < (t508.length : Int)) = true := decide_eq_true c16
        clear c16
        simp only [Option.some.injEq, Prod.mk.injEq] at H
        obtain ⟨rfl, rfl⟩ := H
        go_wp2_with (first | ((with_reducible refine gate_callee (f := 136) rfl ?_); refine goesL_ (some 19) rfl rfl Try.func136 (by kernel_rfl) rfl #[.int .i64 a0, .int .i64 a1] rfl qy15 ?_; (with_reducible refine (impl_within.calls kj3 a0 a1 t508 _ A9.out).mono ?_); rintro e w17 ⟨v509, rfl, ho0, hb⟩; refine ⟨_, rfl, ?_⟩; have n0_ := Aside0.mk (Kd.R_lower ho0 (below_size qy16)); have n1_ := Aside0.mk (below_step qy16 hb); clear HB; have HO510 := n0_; have HB := n1_; clear n0_ n1_; (try clear hb); (try clear hb2); (try clear hk); (try clear hi); (try clear ho0); obtain ⟨Ao18, co18, eo18⟩ := Kd.R_slice HO510.out; subst eo18; have p511 : 0 ≤ (a2 : Int) := of_decide_eq_true qy43; have q511 : a2 < (t508.length : Int) := of_decide_eq_true qy43; obtain ⟨ad511, e511, hx511_0⟩ := Kd.at_string (Kd.R_reads' HO510.out).2.2 a2 p511 q511; cases e511; replace p511 := eq_true p511; replace q511 := eq_true q511))
        go_ret2
        exact ⟨by first | rfl | (simp [errW_none, errW_some] <;> rfl) | (simp [*, errW_none, errW_some] <;> rfl), by repeat (first | (with_reducible first | exact HB.out | apply below_alloc | apply pw_below_drewN | apply below_drew1) | exact HB.out)⟩
       ·rw [if_neg c16] at H
        exact absurd H (by simp)
      ·rw [if_neg c15] at H
       exact absurd H (by simp)

end Go.Proofs.Ytnoapomobflknaa.Xi
