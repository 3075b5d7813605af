/- impl.sweepWord comes to the word 'lw' tells: its loops and its closure, walked by hand. -/
import Derived.Test.YtnoapomobflknaaZsXsHlimited
import Derived.Test.YtnoapomobflknaaZsXs0
import Derived.Outline
namespace Go.Proofs.Ytnoapomobflknaa.Xs
open Go.RowKit Go.Proofs.YtnoapomobflknaaW.PrintWords Go.Proofs.YtnoapomobflknaaW.PrintLast Go.Proofs.YtnoapomobflknaaW.PrintMore
attribute [local go_sem] max2_int min2_int max_two min_two max_three min_three max_four min_four
set_option linter.unusedVariables false
set_option linter.unusedSimpArgs false

/-! ### what the sweep writes, on lists: the stack with its top first -/







/-! ### two boxed variables: a stack of numbers, a row of bytes -/
















def impl_sweepWord.f (l0 : List Int) : Option ByteArray := if l0.length ≤ 1000 ∧ (∀ x ∈ l0, x < 8) then some (strOfNums (lw 1000000 l0 [] [])) else none
theorem sw_info8 : (Try.prog.info? 5).map (fun i => (i.zero, i.size, i.bytes)) = some (some (.int .u8 0), 1, 1) := by kernel_rfl
theorem lwPop_len (n : Int) : ∀ st : List Int, (lwPop n st).1 + (lwPop n st).2.length = st.length
  | [] => rfl
  | x :: t => by
    simp only [lwPop]
    split
    · have := lwPop_len n t
      simp only [List.length_cons]
      omega
    · simp
theorem lwPop_step (n x : Int) (t out : List Int) (h : x < n) : (lwPop n (x :: t)).2 = (lwPop n t).2 ∧ out ++ List.replicate (lwPop n (x :: t)).1 79 = (out ++ [79]) ++ List.replicate (lwPop n t).1 79 := by
  simp only [lwPop, h, ↓reduceIte]
  refine ⟨trivial, ?_⟩
  rw [List.replicate_succ]
  simp

set_option maxHeartbeats 16000000 in
set_option maxRecDepth 100000 in
theorem sweepWord_pop (w0 w : World) (b5 b6 : Nat) (below : Int) (st out : List Int) (A : Option Addr) (c : Nat) (vo : Value) (h : LwInv w0 w b5 b6 st out A c vo) (hl : out.length + st.length < 140737488355328) :
    Calls Try.prog 166 #[.int .i64 below, .pointer (some ⟨b5, 0, none⟩), .pointer (some ⟨b6, 0, none⟩)] w fun e w' => e = .returned (.tuple #[]) ∧ ∃ v1, LwInv w0 w' b5 b6 (lwPop below st).2 (out ++ List.replicate (lwPop below st).1 79) A c v1 := by
  have HL0 := Aside0.mk hl
  have HI := Aside0.mk h
  obtain ⟨S, hS⟩ : ∃ S, S = (lwPop below st).2 := ⟨_, rfl⟩
  obtain ⟨O, hO⟩ : ∃ O, O = out ++ List.replicate (lwPop below st).1 79 := ⟨_, rfl⟩
  rw [← hS, ← hO]
  have HSS := Aside0.mk hS
  have HOO := Aside0.mk hO
  clear h hl hS hO
  obtain ⟨i0, hi0, _, hsz0, _⟩ := info_parts info3
  have HI0 := Aside0.mk hi0
  clear hi0 hsz0
  go_enter Try.func166, Try.ntmps166
  go_wp2
  go_loopg [] st.length (fun kq w' => ∃ (s2 o2 : List Int) (v2 : Value), Aside0 (s2.length = kq) ∧ Aside0 (LwInv w0 w' b5 b6 s2 o2 A c v2) ∧ Aside0 (S = (lwPop below s2).2 ∧ O = o2 ++ List.replicate (lwPop below s2).1 79) ∧ Aside0 (o2.length + s2.length < 140737488355328))
  case atStart => exact ⟨st, out, vo, ⟨rfl⟩, HI, ⟨HSS.out, HOO.out⟩, HL0⟩
  case round =>
    clear HI HSS HOO HL0
    obtain ⟨s2, o2, v2, HK, HI, HE, HL⟩ := hrel
    have c5 := cell_of_one HI.out.x5
    have c6 := cell_of_one HI.out.x6
    cases s2 with
    | nil =>
      go_wp2_with (fail)
      go_end0
      exact ⟨rfl, _, by rw [HE.out.1, HE.out.2]; simpa [lwPop] using HI.out⟩
    | cons x t =>
      have hr5 := Kd.R_reads' HI.out.r5
      obtain ⟨n, hn⟩ : ∃ n : Nat, n = t.length := ⟨_, rfl⟩
      have hn1 : (x :: t).length = n + 1 := by rw [hn]; rfl
      have hnb : n + 1 ≤ 9223372036854775807 := by have := hr5.2.2.2.1; simp only [List.length_reverse, List.length_cons] at this; omega
      obtain ⟨ad2, ead2, hx2⟩ := Kd.at_int hr5.2.2 (n : Int) (by omega) (by simp; omega)
      subst ead2
      rw [show rd (x :: t).reverse (n : Int) = x by unfold rd; rw [hn]; simp, Int.toNat_natCast] at hx2
      rw [hn1] at c5
      have HN := Aside0.mk hn
      have HN1 := Aside0.mk hn1
      have hcut := cut_to (P := Try.prog) 24 3 .i64 Try.underlying24 HI0.out (some ad2) (n + 1) c (n : Int) (by omega) (by omega) (by rw [← hn1]; simpa using hr5.2.1)
      obtain ⟨k1, hk1⟩ : ∃ k1, gk = k1 + 1 := ⟨gk - 1, by have := HK.out; simp at this; omega⟩
      subst hk1
      have ew : wrap64 (n : Int) = (n : Int) := by unfold wrap64; omega
      clear hn hn1 hr5
      by_cases hxn : x < below
      · have d2 : decide (x < below) = true := decide_eq_true hxn
        have HX := Aside0.mk hxn
        clear hxn
        go_wp2_with (fail)
        have H0 := Aside0.mk HI.out.drew
        clear HI
        refine start_ (n := 10) (S := fun w' => w'.cell? ⟨b5, 0, none⟩ = some (.slice (some ad2) (n + 1) c) ∧ w'.cell? ⟨b6, 0, none⟩ = some v2) (ds := [8, 9]) #[false, false, false, false, false, false, false, false, false, false] (by kernel_rfl) rfl rfl ⟨c5, c6⟩ (fun hHeld => ?_)
        generalize wr.drew = wd at H0 c5 c6 hHeld ⊢
        refine take_ (i := 0) (N := some 17) (v := ?_) (a' := ?_) #[true, false, false, false, false, false, false, false, false, false] rfl rfl (by kernel_rfl) (fun _ _ _ h => h) (Or.inl ⟨by rfl, ?_⟩) hHeld ?_ ?_
        rotate_left
        · rintro w' ⟨s0, s1⟩
          go_simp
          with_reducible rfl
        rotate_left
        · simp only [Act.put, List.setIfInBounds_toArray, List.set_cons_zero, List.set_cons_succ, i64_w, i32_w]
          rfl
        refine take_ (i := 1) (N := some 18) (v := ?_) (a' := ?_) #[true, true, false, false, false, false, false, false, false, false] rfl rfl (by kernel_rfl) (fun _ _ _ h => h) (Or.inl ⟨by rfl, ?_⟩) hHeld ?_ ?_
        rotate_left
        · rintro w' ⟨s0, s1⟩
          go_simp
          with_reducible rfl
        rotate_left
        · simp only [Act.put, List.setIfInBounds_toArray, List.set_cons_zero, List.set_cons_succ, i64_w, i32_w]
          rfl
        refine pure_ (i := 2) (N := some 19) (v := ?_) (a' := ?_) #[true, true, true, false, false, false, false, false, false, false] rfl rfl (by kernel_rfl) (fun _ _ _ h => h) (Or.inl ⟨by rfl, ?_⟩) ?_ ?_
        rotate_left
        · intro w'
          go_simp
          with_reducible rfl
        rotate_left
        · simp only [Act.put, List.setIfInBounds_toArray, List.set_cons_zero, List.set_cons_succ, i64_w, i32_w]
          rfl
        refine pure_ (i := 3) (N := some 20) (v := ?_) (a' := ?_) #[true, true, true, true, false, false, false, false, false, false] rfl rfl (by kernel_rfl) (fun _ _ _ h => h) (Or.inl ⟨by rfl, ?_⟩) ?_ ?_
        rotate_left
        · intro w'
          go_simp
          with_reducible rfl
        rotate_left
        · simp only [Act.put, List.setIfInBounds_toArray, List.set_cons_zero, List.set_cons_succ, i64_w, i32_w]
          rfl
        refine pure_ (i := 4) (N := some 21) (v := ?_) (a' := ?_) #[true, true, true, true, true, false, false, false, false, false] rfl rfl (by kernel_rfl) (fun _ _ _ h => h) (Or.inl ⟨by rfl, ?_⟩) ?_ ?_
        rotate_left
        · intro w'
          go_simp
          with_reducible rfl
        rotate_left
        · simp only [Act.put, List.setIfInBounds_toArray, List.set_cons_zero, List.set_cons_succ, i64_w, i32_w]
          rfl
        refine take_ (i := 5) (N := some 22) (v := ?_) (a' := ?_) #[true, true, true, true, true, true, false, false, false, false] rfl rfl (by kernel_rfl) (fun _ _ _ h => h) (Or.inl ⟨by rfl, ?_⟩) hHeld ?_ ?_
        rotate_left
        · rintro w' ⟨s0, s1⟩
          go_simp
          with_reducible rfl
        rotate_left
        · simp only [Act.put, List.setIfInBounds_toArray, List.set_cons_zero, List.set_cons_succ, i64_w, i32_w]
          rfl
        refine one_ (i := 6) (N := some 23) #[true, true, true, true, true, true, true, false, false, false] rfl rfl (by kernel_rfl) (by decide) (fun K hK => ?_)
        refine value_ (w1 := ?_) (v := ?_) (by rfl) rfl ?_ ?_
        rotate_left 2
        · go_simp
          constructor
          · rfl
          · rfl
        refine hK.out _ _ ⟨(by rw [← HN1.out]; exact cell_of_one (H0.out.alloc _).x5), (cell_of_one (H0.out.alloc _).x6)⟩ (fun hHeld => ?_)
        clear hK K
        refine norm_ (a' := ?_) ?_ ?_
        rotate_left
        · show Act.put _ (some 23) _ = _
          simp only [Act.put, List.setIfInBounds_toArray, List.set_cons_zero, List.set_cons_succ, i64_w, i32_w]
          rfl
        refine one_ (i := 7) (N := some 24) #[true, true, true, true, true, true, true, true, false, false] rfl rfl (by kernel_rfl) (by decide) (fun K hK => ?_)
        refine Kd.R_append_step (Kd.int .u8) (w0 := w0) w0.heap.size (by rfl) (.tmp 22) (.tmp 23) 22 5 (.int .u8 0) 1 rfl Try.underlying22 sw_info8 rfl (by decide) (by omega) v2 o2 79 [.int .u8 79] (fun _ => True) (fun _ => False) rfl rfl ?aP (fun _ hk => hk.elim) ?aF ?aO ?aB ?aS ?aL ?_
        (case aP => exact rfl)
        (case aB => exact H0.out.bel)
        (case aF => exact fun _ _ => trivial)
        (case aO => exact H0.out.r6)
        (case aS => exact H0.out.bel.size)
        (case aL => have := HL.out; omega)
        intro v9 w9 ho hb hg hat
        obtain ⟨A9, c9, e9⟩ := Kd.R_slice ho
        subst e9
        have H2 := Aside0.mk (H0.out.grown hg ho hb)
        have f5 := free_of_one H2.out.x5
        have f6 := free_of_one H2.out.x6
        have n56 : b5 ≠ b6 := blk_ne H2.out.x5 H2.out.x6 (by decide)
        clear ho hb hg hat
        refine hK.out _ _ ⟨(by rw [← HN1.out]; exact cell_of_one H2.out.x5), (cell_of_one H2.out.x6)⟩ (fun hHeld => ?_)
        clear hK K
        refine norm_ (a' := ?_) ?_ ?_
        rotate_left
        · show Act.put _ (some 24) _ = _
          simp only [Act.put, List.setIfInBounds_toArray, List.set_cons_zero, List.set_cons_succ, i64_w, i32_w]
          rfl
        refine last_ (i := 8) (N := none) #[true, true, true, true, true, true, true, true, true, false] rfl rfl (by kernel_rfl) (by decide) (fun K hK => ?_)
        refine skip_ (w1 := ?_) (by rfl) rfl ?_ ?_
        rotate_left
        · go_simp
          rfl
        have z6 := blk_far H2.out.x6 (p := ⟨b5, 0, none⟩) (Ne.symm n56) (.slice (some ad2) n c)
        have c6b := cell_of_one z6
        have f6b := free_of_one z6
        clear z6
        refine hK.out _ _ ?_
        clear hK K
        refine last_ (i := 9) (N := none) #[true, true, true, true, true, true, true, true, true, true] rfl rfl (by kernel_rfl) (by decide) (fun K hK => ?_)
        refine skip_ (w1 := ?_) (by rfl) rfl ?_ ?_
        rotate_left
        · go_simp
          rfl
        refine hK.out _ _ ?_
        clear hK K
        refine done_ (by kernel_rfl) ?_

        go_wp2_with (fail)
        go_roundg k1
        case measure => omega
        case rel =>
          have hs := lwPop_step below x t o2 HX.out
          refine ⟨t, o2 ++ [79], .slice A9 (o2.length + 1) c9, ⟨by have := HK.out; simp at this; omega⟩, ⟨?_⟩, ⟨by rw [HE.out.1, hs.1], by rw [HE.out.2, hs.2]⟩, ⟨by have := HL.out; simp at this ⊢; omega⟩⟩
          rw [HN.out, show o2.length + 1 = (o2 ++ [(79 : Int)]).length by simp]
          exact H2.out.stored H0.out.g5 H0.out.g6 (by simpa using Kd.R_take (m := t.length) H2.out.r5 (by simp))
      · have d2 : decide (x < below) = false := decide_eq_false hxn
        have hp := lwPop_stay below (x :: t) (fun y u hy => by injection hy with a b; rw [← a]; exact hxn)
        have HP := Aside0.mk hp
        clear hxn hp
        go_wp2_with (fail)
        go_end0
        exact ⟨rfl, _, by rw [HE.out.1, HE.out.2, HP.out]; simpa using HI.out⟩

theorem lwPop_all : ∀ (st : List Int), (∀ x ∈ st, x < 8) → lwPop 8 st = (st.length, [])
  | [], _ => rfl
  | x :: t, h => by
    simp only [lwPop, h x List.mem_cons_self, ↓reduceIte, lwPop_all t (fun y hy => h y (List.mem_cons_of_mem _ hy)), List.length_cons]
theorem lwPop_mem (n : Int) : ∀ (st : List Int), ∀ x ∈ (lwPop n st).2, x ∈ st
  | [], x, h => h
  | y :: t, x, h => by
    simp only [lwPop] at h
    split at h
    · exact List.mem_cons_of_mem _ (lwPop_mem n t x h)
    · exact h
set_option maxHeartbeats 16000000 in
set_option maxRecDepth 100000 in
theorem impl_sweepWord.calls (A0 : Option Addr) (c0 : Nat) (l0 : List Int) (r : ByteArray) (w : World) (hr0 : Kd.C (Kd.int .i64) w A0 l0.length l0) (hc0 : l0.length ≤ c0) (h : impl_sweepWord.f l0 = some r) :
    Calls Try.prog 152 #[.slice A0 l0.length c0] w fun e w' => e = .returned (.string r) ∧ Below w.heap.size w w' := by
  unfold impl_sweepWord.f at h
  split at h
  · rename_i hcnd
    obtain ⟨hl, hall⟩ := hcnd
    obtain rfl := Option.some.inj h
    clear h
    obtain ⟨R, hR⟩ : ∃ R, R = lw 1000000 l0 [] [] := ⟨_, rfl⟩
    rw [← hR]
    have HR0 := Aside0.mk hr0
    have HC0 := Aside0.mk hc0
    have HALL := Aside0.mk hall
    have HR := Aside0.mk hR
    clear hr0 hc0 hall hR
    go_enter Try.func152, Try.ntmps152
    go_wp2_with (first
      | ((with_reducible refine gate_dst (N := 8) rfl ?_); refine Kd.R_lit (Kd.int .i64) _ 3 ?hg (N := 8) ?hd (xs := ([] : List Int)) (inner := []) (ok := fun _ => True) (okp := fun _ => True) ?hr ?hp (fun _ hk => hk) trivial (Below.refl _ _) (Nat.le_refl _) (by simp) ?_; (case hd => rfl); (case hg => rfl); (case hr => first | (go_simp; done) | (go_simp; rfl)); (case hp => exact (Reps.none _ _)); intro v10 w10 ho10 hb10 hg_ hnew_; obtain ⟨A10, c10, e10⟩ := Kd.R_slice ho10; subst e10; clear hg_ hnew_; have HO10 := Aside0.mk ho10; have HB10 := Aside0.mk hb10; clear ho10 hb10)
      | ((with_reducible refine gate_dst (N := 9) rfl ?_); refine Kd.R_lit (Kd.int .u8) _ 5 ?hg (N := 9) ?hd (xs := ([] : List Int)) (inner := []) (ok := fun _ => True) (okp := fun _ => True) ?hr ?hp (fun _ hk => hk) trivial (Below.refl _ _) (Nat.le_refl _) (by simp) ?_; (case hd => rfl); (case hg => rfl); (case hr => first | (go_simp; done) | (go_simp; rfl)); (case hp => exact (Reps.none _ _)); intro v11 w11 ho11 hb11 hg_ hnew_; obtain ⟨A11, c11, e11⟩ := Kd.R_slice ho11; subst e11; clear hg_ hnew_; have HO11 := Aside0.mk ho11; have HB11 := Aside0.mk hb11; clear ho11 hb11))
    have HI0 := Aside0.mk (lw_start HO10.out HB10.out HO11.out HB11.out)
    clear HO10 HB10 HO11 HB11
    go_loopg [13] l0.length (fun kq v13 w' => ∃ (kk : Nat) (st out : List Int) (A : Option Addr) (c : Nat) (vo : Value), v13 = .int .i64 kk ∧ Aside0 (kk + kq = l0.length) ∧ Aside0 (LwInv w w' w11.heap.size (w11.heap.size + 1) st out A c vo) ∧ Aside0 (lw 1000000 (l0.drop kk) st out = R) ∧ Aside0 (out.length + st.length + 2 * (l0.length - kk) ≤ 2 * l0.length) ∧ Aside0 (∀ x ∈ st, x < 8))
    case atStart => exact ⟨0, [], [], A10, c10, _, rfl, ⟨by omega⟩, HI0, ⟨by rw [List.drop_zero]; exact HR.out.symm⟩, ⟨by simp⟩, ⟨by simp⟩⟩
    case round =>
      clear HI0
      obtain ⟨kk, st, out, A, c, vo, rfl, HK, HI, HE, HM, H8⟩ := hrel
      by_cases hlt : kk < l0.length
      · obtain ⟨n, hn⟩ : ∃ n, n = rd l0 (kk : Int) := ⟨_, rfl⟩
        have HN := Aside0.mk hn
        obtain ⟨ad, ead, hxn⟩ := Kd.at_int (Kd.C_below HR0.out HI.out.bel) (kk : Int) (by omega) (by omega)
        subst ead
        rw [← hn, Int.toNat_natCast] at hxn
        clear hn
        have hn8 : n < 8 := by
          rw [HN.out]
          refine HALL.out _ ?_
          unfold rd
          rw [Int.toNat_natCast]
          simp [hlt]
        have HN8 := Aside0.mk hn8
        clear hn8
        have hkb : kk < 1000 := by omega
        obtain ⟨k1, hk1⟩ : ∃ k1, gk = k1 + 1 := ⟨gk - 1, by have := HK.out; omega⟩
        subst hk1
        have d1 : decide ((kk : Int) < (l0.length : Int)) = true := decide_eq_true (by omega)
        have HE1 := Aside0.mk (show lw 1000000 (n :: l0.drop (kk + 1)) st out = R by rw [HN.out, ← rd_drop_w l0 kk hlt]; exact HE.out)
        have hpl := lwPop_len n st
        have HE2 := Aside0.mk (show lw 1000000 (l0.drop (kk + 1)) (n :: (lwPop n st).2) ((out ++ List.replicate (lwPop n st).1 79) ++ [73]) = R by
          rw [← HE1.out]
          have hf : ¬ (((lwPop n st).2.length : Int) = 1000000) := by have := HM.out; omega
          simp only [lw, hf, ↓reduceIte])
        have HM2 := Aside0.mk (show (out ++ List.replicate (lwPop n st).1 79).length + (lwPop n st).2.length ≤ out.length + st.length by simp; omega)
        have H82 := Aside0.mk (show ∀ x ∈ (lwPop n st).2, x < 8 from fun x hx => H8.out x (lwPop_mem n st x hx))
        have HLB := Aside0.mk (show out.length + st.length < 140737488355328 by have := HM.out; omega)
        clear hpl HE HE1 H8
        obtain ⟨s4, hs4⟩ : ∃ s4, s4 = (lwPop n st).2 := ⟨_, rfl⟩
        obtain ⟨o4, ho4⟩ : ∃ o4, o4 = out ++ List.replicate (lwPop n st).1 79 := ⟨_, rfl⟩
        rw [← hs4, ← ho4] at HE2 HM2
        rw [← hs4] at H82
        have HSO := Aside0.mk (And.intro hs4 ho4)
        clear hs4 ho4
        go_wp2_with ((go_at_call 166; refine (sweepWord_pop w _ w11.heap.size (w11.heap.size + 1) n st out A c vo HI.out HLB.out).mono ?_; rintro e wc ⟨rfl, v1, hI⟩; rw [← HSO.out.1, ← HSO.out.2] at hI; have HI2 := Aside0.mk hI; clear hI))
        clear HI
        obtain ⟨A4, hA4⟩ : ∃ A4, A4 = A := ⟨_, rfl⟩
        obtain ⟨c4, hc4⟩ : ∃ c4, c4 = c := ⟨_, rfl⟩
        rw [← hA4, ← hc4] at HI2
        have HI := Aside0.mk HI2.out.drew
        clear HI2 hA4 hc4
        have hx5 := HI.out.x5
        have c5 := cell_of_one hx5
        have c6 := cell_of_one HI.out.x6
        obtain ⟨Ao, co, eo⟩ := Kd.R_slice HI.out.r6
        subst eo
        clear hx5
        refine start_ (n := 9) (S := fun w' => w'.cell? ⟨w11.heap.size, 0, none⟩ = some (.slice A4 s4.length c4) ∧ w'.cell? ⟨w11.heap.size + 1, 0, none⟩ = some (.slice Ao o4.length co)) (ds := [7, 8]) #[false, false, false, false, false, false, false, false, false] (by kernel_rfl) rfl rfl ⟨c5, c6⟩ (fun hHeld => ?_)
        generalize wc.drew = wd at HI c5 c6 hHeld ⊢
        refine pure_ (i := 1) (N := some 21) (v := ?_) (a' := ?_) #[false, true, false, false, false, false, false, false, false] rfl rfl (by kernel_rfl) (fun _ _ _ h => h) (Or.inl ⟨by rfl, ?_⟩) ?_ ?_
        rotate_left
        · intro w'
          go_simp
          with_reducible rfl
        rotate_left
        · simp only [Act.put, List.setIfInBounds_toArray, List.set_cons_zero, List.set_cons_succ, i64_w, i32_w]
          rfl
        refine take_ (i := 0) (N := some 20) (v := ?_) (a' := ?_) #[true, true, false, false, false, false, false, false, false] rfl rfl (by kernel_rfl) (fun _ _ _ h => h) (Or.inl ⟨by rfl, ?_⟩) hHeld ?_ ?_
        rotate_left
        · rintro w' ⟨s0, s1⟩
          go_simp
          with_reducible rfl
        rotate_left
        · simp only [Act.put, List.setIfInBounds_toArray, List.set_cons_zero, List.set_cons_succ, i64_w, i32_w]
          rfl
        refine take_ (i := 4) (N := some 24) (v := ?_) (a' := ?_) #[true, true, false, false, true, false, false, false, false] rfl rfl (by kernel_rfl) (fun _ _ _ h => h) (Or.inl ⟨by rfl, ?_⟩) hHeld ?_ ?_
        rotate_left
        · rintro w' ⟨s0, s1⟩
          go_simp
          with_reducible rfl
        rotate_left
        · simp only [Act.put, List.setIfInBounds_toArray, List.set_cons_zero, List.set_cons_succ, i64_w, i32_w]
          rfl
        refine join_ (σ := Nat × (Option Addr × Nat) × Nat) 3 #[true, true, true, true, true, true, false, false, false] (fun s => [(22, .slice (some ⟨s.1, 0, none⟩) 1 1), (23, .slice s.2.1.1 (s4.length + 1) s.2.1.2), (25, .slice (some ⟨s.2.2, 0, none⟩) 1 1)]) (fun s w' => LwUp w w' w11.heap.size (w11.heap.size + 1) s4 o4 A4 c4 (.slice Ao o4.length co) n s.2.1.1 s.2.1.2 ∧ w'.heap[s.2.2]? = some (.cells #[.int .u8 73] 5 (0, 0))) ?_ ?_
        rotate_left
        · intro hCont
          refine two_ (i := 2) (j := 5) (Ni := some 22) (Nj := some 25) #[true, true, true, false, true, false, false, false, false] #[true, true, false, false, true, true, false, false, false] rfl rfl rfl rfl (by kernel_rfl) (by decide) (by decide) (fun K hK => ?_) (fun K hK => ?_)
          · skip
            refine value_ (w1 := ?_) (v := ?_) (by rfl) rfl ?_ ?_
            rotate_left 2
            · go_simp
              constructor
              · rfl
              · rfl
            have h0_ := Aside0.mk (HI.out.alloc (.cells #[.int .i64 n] 3))
            have B2 := Aside0.mk (blk_new wd (.cells #[.int .i64 n] 3))
            clear HI
            have HI := h0_
            clear h0_
            generalize wd.heap.size = k2 at B2 ⊢
            generalize hW_ : World.alloc wd (.cells #[.int .i64 n] 3) = W1 at HI B2 ⊢
            clear hW_
            refine hK.out _ _ ⟨(cell_of_one HI.out.x5), (cell_of_one HI.out.x6)⟩ (fun hHeld => ?_)
            clear hK K
            refine norm_ (a' := ?_) ?_ ?_
            rotate_left
            · show Act.put _ (some 22) _ = _
              simp only [Act.put, List.setIfInBounds_toArray, List.set_cons_zero, List.set_cons_succ, i64_w, i32_w]
              rfl
            refine two_ (i := 3) (j := 5) (Ni := some 23) (Nj := some 25) #[true, true, true, true, true, false, false, false, false] #[true, true, true, false, true, true, false, false, false] rfl rfl rfl rfl (by kernel_rfl) (by decide) (by decide) (fun K hK => ?_) (fun K hK => ?_)
            · skip
              refine Kd.R_append_rows_step (Kd.int .i64) (w0 := w) w.heap.size (by rfl) (.tmp 20) (.tmp 22) 24 3 (.int .i64 0) 8 rfl Try.underlying24 info3 rfl (by decide) (by omega) (.slice A4 s4.length c4) s4.reverse [n] _ _ _ (fun _ => True) (fun _ => False) rfl rfl ?aO ?aR (fun _ _ h => h) (fun _ h => h.elim) ?aF ?aB ?aS ?aL ?_
              (case aO => exact HI.out.r5)
              (case aR => exact row_of_one B2.out)
              (case aF => exact fun _ _ => trivial)
              (case aB => exact HI.out.bel)
              (case aS => exact HI.out.bel.size)
              (case aL => have := HM2.out; have := HM.out; have := HK.out; simp; omega)
              intro v3_ W2 ho hb hg hat
              obtain ⟨A3, c3, e3⟩ := Kd.R_slice ho
              subst e3
              have hl3_ : (s4.reverse ++ [n]).length = s4.length + 1 := by simp
              rw [hl3_] at ho
              have HU := Aside0.mk (HI.out.up hg ho hb)
              clear ho hb hg hat HI B2
              try rw [hl3_]
              clear hl3_
              refine hK.out _ _ ⟨(cell_of_one HU.out.x5), (cell_of_one HU.out.x6)⟩ (fun hHeld => ?_)
              clear hK K
              refine norm_ (a' := ?_) ?_ ?_
              rotate_left
              · show Act.put _ (some 23) _ = _
                simp only [Act.put, List.setIfInBounds_toArray, List.set_cons_zero, List.set_cons_succ, i64_w, i32_w]
                rfl
              refine one_ (i := 5) (N := some 25) #[true, true, true, true, true, true, false, false, false] rfl rfl (by kernel_rfl) (by decide) (fun K hK => ?_)
              refine value_ (w1 := ?_) (v := ?_) (by rfl) rfl ?_ ?_
              rotate_left 2
              · go_simp
                constructor
                · rfl
                · rfl
              have h0_ := Aside0.mk (HU.out.alloc (.cells #[.int .u8 73] 5))
              have B5 := Aside0.mk (blk_new W2 (.cells #[.int .u8 73] 5))
              clear HU
              have HU := h0_
              clear h0_
              generalize W2.heap.size = k5 at B5 ⊢
              generalize hW_ : World.alloc W2 (.cells #[.int .u8 73] 5) = W3 at HU B5 ⊢
              clear hW_
              refine hK.out _ _ ⟨(cell_of_one HU.out.x5), (cell_of_one HU.out.x6)⟩ (fun hHeld => ?_)
              clear hK K
              refine norm_ (a' := ?_) ?_ ?_
              rotate_left
              · show Act.put _ (some 25) _ = _
                simp only [Act.put, List.setIfInBounds_toArray, List.set_cons_zero, List.set_cons_succ, i64_w, i32_w]
                rfl
              exact norm_ (by simp only [putAll, Act.put, List.setIfInBounds_toArray, List.set_cons_zero, List.set_cons_succ]) (hCont (k2, (A3, c3), k5) _ ⟨HU.out, B5.out⟩)
            · skip
              refine value_ (w1 := ?_) (v := ?_) (by rfl) rfl ?_ ?_
              rotate_left 2
              · go_simp
                constructor
                · rfl
                · rfl
              have h0_ := Aside0.mk (HI.out.alloc (.cells #[.int .u8 73] 5))
              have B5 := Aside0.mk (blk_new W1 (.cells #[.int .u8 73] 5))
              have gB2_ := Aside0.mk (blk_alloc B2.out (.cells #[.int .u8 73] 5))
              clear HI B2
              have HI := h0_
              clear h0_
              have B2 := gB2_
              clear gB2_
              generalize W1.heap.size = k5 at B5 ⊢
              generalize hW_ : World.alloc W1 (.cells #[.int .u8 73] 5) = W2 at HI B5 B2 ⊢
              clear hW_
              refine hK.out _ _ ⟨(cell_of_one HI.out.x5), (cell_of_one HI.out.x6)⟩ (fun hHeld => ?_)
              clear hK K
              refine norm_ (a' := ?_) ?_ ?_
              rotate_left
              · show Act.put _ (some 25) _ = _
                simp only [Act.put, List.setIfInBounds_toArray, List.set_cons_zero, List.set_cons_succ, i64_w, i32_w]
                rfl
              refine one_ (i := 3) (N := some 23) #[true, true, true, true, true, true, false, false, false] rfl rfl (by kernel_rfl) (by decide) (fun K hK => ?_)
              refine Kd.R_append_rows_step (Kd.int .i64) (w0 := w) w.heap.size (by rfl) (.tmp 20) (.tmp 22) 24 3 (.int .i64 0) 8 rfl Try.underlying24 info3 rfl (by decide) (by omega) (.slice A4 s4.length c4) s4.reverse [n] _ _ _ (fun _ => True) (fun _ => False) rfl rfl ?aO ?aR (fun _ _ h => h) (fun _ h => h.elim) ?aF ?aB ?aS ?aL ?_
              (case aO => exact HI.out.r5)
              (case aR => exact row_of_one B2.out)
              (case aF => exact fun _ _ => trivial)
              (case aB => exact HI.out.bel)
              (case aS => exact HI.out.bel.size)
              (case aL => have := HM2.out; have := HM.out; have := HK.out; simp; omega)
              intro v3_ W3 ho hb hg hat
              obtain ⟨A3, c3, e3⟩ := Kd.R_slice ho
              subst e3
              have hl3_ : (s4.reverse ++ [n]).length = s4.length + 1 := by simp
              rw [hl3_] at ho
              have gB5_ := Aside0.mk (blk_grown B5.out hg (Kd.R_ne HI.out.r5 B5.out (by decide)))
              clear B5
              have B5 := gB5_
              clear gB5_
              have HU := Aside0.mk (HI.out.up hg ho hb)
              clear ho hb hg hat HI B2
              try rw [hl3_]
              clear hl3_
              refine hK.out _ _ ⟨(cell_of_one HU.out.x5), (cell_of_one HU.out.x6)⟩ (fun hHeld => ?_)
              clear hK K
              refine norm_ (a' := ?_) ?_ ?_
              rotate_left
              · show Act.put _ (some 23) _ = _
                simp only [Act.put, List.setIfInBounds_toArray, List.set_cons_zero, List.set_cons_succ, i64_w, i32_w]
                rfl
              exact norm_ (by simp only [putAll, Act.put, List.setIfInBounds_toArray, List.set_cons_zero, List.set_cons_succ]) (hCont (k2, (A3, c3), k5) _ ⟨HU.out, B5.out⟩)
          · skip
            refine value_ (w1 := ?_) (v := ?_) (by rfl) rfl ?_ ?_
            rotate_left 2
            · go_simp
              constructor
              · rfl
              · rfl
            have h0_ := Aside0.mk (HI.out.alloc (.cells #[.int .u8 73] 5))
            have B5 := Aside0.mk (blk_new wd (.cells #[.int .u8 73] 5))
            clear HI
            have HI := h0_
            clear h0_
            generalize wd.heap.size = k5 at B5 ⊢
            generalize hW_ : World.alloc wd (.cells #[.int .u8 73] 5) = W1 at HI B5 ⊢
            clear hW_
            refine hK.out _ _ ⟨(cell_of_one HI.out.x5), (cell_of_one HI.out.x6)⟩ (fun hHeld => ?_)
            clear hK K
            refine norm_ (a' := ?_) ?_ ?_
            rotate_left
            · show Act.put _ (some 25) _ = _
              simp only [Act.put, List.setIfInBounds_toArray, List.set_cons_zero, List.set_cons_succ, i64_w, i32_w]
              rfl
            refine one_ (i := 2) (N := some 22) #[true, true, true, false, true, true, false, false, false] rfl rfl (by kernel_rfl) (by decide) (fun K hK => ?_)
            refine value_ (w1 := ?_) (v := ?_) (by rfl) rfl ?_ ?_
            rotate_left 2
            · go_simp
              constructor
              · rfl
              · rfl
            have h0_ := Aside0.mk (HI.out.alloc (.cells #[.int .i64 n] 3))
            have B2 := Aside0.mk (blk_new W1 (.cells #[.int .i64 n] 3))
            have gB5_ := Aside0.mk (blk_alloc B5.out (.cells #[.int .i64 n] 3))
            clear HI B5
            have HI := h0_
            clear h0_
            have B5 := gB5_
            clear gB5_
            generalize W1.heap.size = k2 at B2 ⊢
            generalize hW_ : World.alloc W1 (.cells #[.int .i64 n] 3) = W2 at HI B2 B5 ⊢
            clear hW_
            refine hK.out _ _ ⟨(cell_of_one HI.out.x5), (cell_of_one HI.out.x6)⟩ (fun hHeld => ?_)
            clear hK K
            refine norm_ (a' := ?_) ?_ ?_
            rotate_left
            · show Act.put _ (some 22) _ = _
              simp only [Act.put, List.setIfInBounds_toArray, List.set_cons_zero, List.set_cons_succ, i64_w, i32_w]
              rfl
            refine one_ (i := 3) (N := some 23) #[true, true, true, true, true, true, false, false, false] rfl rfl (by kernel_rfl) (by decide) (fun K hK => ?_)
            refine Kd.R_append_rows_step (Kd.int .i64) (w0 := w) w.heap.size (by rfl) (.tmp 20) (.tmp 22) 24 3 (.int .i64 0) 8 rfl Try.underlying24 info3 rfl (by decide) (by omega) (.slice A4 s4.length c4) s4.reverse [n] _ _ _ (fun _ => True) (fun _ => False) rfl rfl ?aO ?aR (fun _ _ h => h) (fun _ h => h.elim) ?aF ?aB ?aS ?aL ?_
            (case aO => exact HI.out.r5)
            (case aR => exact row_of_one B2.out)
            (case aF => exact fun _ _ => trivial)
            (case aB => exact HI.out.bel)
            (case aS => exact HI.out.bel.size)
            (case aL => have := HM2.out; have := HM.out; have := HK.out; simp; omega)
            intro v3_ W3 ho hb hg hat
            obtain ⟨A3, c3, e3⟩ := Kd.R_slice ho
            subst e3
            have hl3_ : (s4.reverse ++ [n]).length = s4.length + 1 := by simp
            rw [hl3_] at ho
            have gB5_ := Aside0.mk (blk_grown B5.out hg (Kd.R_ne HI.out.r5 B5.out (by decide)))
            clear B5
            have B5 := gB5_
            clear gB5_
            have HU := Aside0.mk (HI.out.up hg ho hb)
            clear ho hb hg hat HI B2
            try rw [hl3_]
            clear hl3_
            refine hK.out _ _ ⟨(cell_of_one HU.out.x5), (cell_of_one HU.out.x6)⟩ (fun hHeld => ?_)
            clear hK K
            refine norm_ (a' := ?_) ?_ ?_
            rotate_left
            · show Act.put _ (some 23) _ = _
              simp only [Act.put, List.setIfInBounds_toArray, List.set_cons_zero, List.set_cons_succ, i64_w, i32_w]
              rfl
            exact norm_ (by simp only [putAll, Act.put, List.setIfInBounds_toArray, List.set_cons_zero, List.set_cons_succ]) (hCont (k2, (A3, c3), k5) _ ⟨HU.out, B5.out⟩)
        rintro ⟨k2, ⟨A3, c3⟩, k5⟩ W4 ⟨HU0, B50⟩
        have HU := Aside0.mk HU0
        have B5 := Aside0.mk B50
        clear HU0 B50
        dsimp only at HU B5
        have hHeld := And.intro (cell_of_one HU.out.x5) (cell_of_one HU.out.x6)
        refine norm_ (a' := ?_) ?_ ?_
        rotate_left
        · simp only [putAll, Act.put, List.setIfInBounds_toArray, List.set_cons_zero, List.set_cons_succ]
          rfl
        refine one_ (i := 6) (N := some 26) #[true, true, true, true, true, true, true, false, false] rfl rfl (by kernel_rfl) (by decide) (fun K hK => ?_)
        refine Kd.R_append_rows_step (Kd.int .u8) (w0 := w) w.heap.size (by rfl) (.tmp 24) (.tmp 25) 22 5 (.int .u8 0) 1 rfl Try.underlying22 sw_info8 rfl (by decide) (by omega) (.slice Ao o4.length co) o4 [73] _ _ _ (fun _ => True) (fun _ => False) rfl rfl ?bO ?bR (fun _ _ h => h) (fun _ h => h.elim) ?bF ?bB ?bS ?bL ?_
        (case bO => exact HU.out.r6)
        (case bR => exact row_of_one B5.out)
        (case bF => exact fun _ _ => trivial)
        (case bB => exact HU.out.bel)
        (case bS => exact HU.out.bel.size)
        (case bL => have := HM2.out; have := HM.out; have := HK.out; simp; omega)
        intro v6_ W5 ho hb hg hat
        obtain ⟨A6, c6_, e6⟩ := Kd.R_slice ho
        subst e6
        have HT := Aside0.mk (HU.out.two hg ho hb)
        clear ho hb hg hat
        have f5 := free_of_one HT.out.x5
        have f6 := free_of_one HT.out.x6
        have n56 : w11.heap.size ≠ w11.heap.size + 1 := by omega
        refine hK.out _ _ ⟨(cell_of_one HT.out.x5), (cell_of_one HT.out.x6)⟩ (fun hHeld => ?_)
        clear hK K
        refine norm_ (a' := ?_) ?_ ?_
        rotate_left
        · show Act.put _ (some 26) _ = _
          simp only [Act.put, List.setIfInBounds_toArray, List.set_cons_zero, List.set_cons_succ, i64_w, i32_w]
          rfl
        refine last_ (i := 7) (N := none) #[true, true, true, true, true, true, true, true, false] rfl rfl (by kernel_rfl) (by decide) (fun K hK => ?_)
        refine skip_ (w1 := ?_) (by rfl) rfl ?_ ?_
        rotate_left
        · go_simp
          rfl
        have z6 := blk_far HT.out.x6 (p := ⟨w11.heap.size, 0, none⟩) (Ne.symm n56) (.slice A3 (s4.length + 1) c3)
        have c6b := cell_of_one z6
        have f6b := free_of_one z6
        clear z6
        refine hK.out _ _ ?_
        clear hK K
        refine last_ (i := 8) (N := none) #[true, true, true, true, true, true, true, true, true] rfl rfl (by kernel_rfl) (by decide) (fun K hK => ?_)
        refine skip_ (w1 := ?_) (by rfl) rfl ?_ ?_
        rotate_left
        · go_simp
          rfl
        refine hK.out _ _ ?_
        clear hK K
        refine done_ (by kernel_rfl) ?_

        go_wp2_with (fail)
        go_roundg k1
        case measure => omega
        have z := HT.out.stored
        rw [show (o4 ++ [(73 : Int)]).length = o4.length + 1 by simp] at z
        case rel => exact ⟨kk + 1, n :: s4, o4 ++ [73], A3, c3, _, by go_num, ⟨by have := HK.out; omega⟩, ⟨z⟩, HE2, ⟨by have := HM2.out; have := HM.out; simp; omega⟩, ⟨by intro x hx; rcases List.mem_cons.1 hx with rfl | hx; exact HN8.out; exact H82.out x hx⟩⟩
      · obtain rfl : kk = l0.length := by have := HK.out; omega
        have d1 : decide ((l0.length : Int) < (l0.length : Int)) = false := decide_eq_false (by omega)
        have hp := lwPop_all st H8.out
        have e7 : out ++ List.replicate st.length 79 = R := by rw [← HE.out, List.drop_of_length_le (Nat.le_refl _)]; simp [lw]
        have HP := Aside0.mk hp
        have HE7 := Aside0.mk e7
        have HLB := Aside0.mk (show out.length + st.length < 140737488355328 by have := HM.out; omega)
        clear hlt hp e7 HE
        go_wp2_with ((go_at_call 166; refine (sweepWord_pop w _ w11.heap.size (w11.heap.size + 1) 8 st out A c vo HI.out HLB.out).mono ?_; rintro e wc ⟨rfl, v1, hI⟩; rw [HP.out] at hI; dsimp only at hI; rw [HE7.out] at hI; obtain ⟨A6, c6, e6⟩ := Kd.R_slice hI.r6; subst e6; have cc6 := cell_of_one hI.x6; have hcv := Kd.C_string (P := Try.prog) (c := c6) Try.underlying22 Try.underlying5 Try.underlying9 (Kd.R_reads' hI.r6).2.2; have HB6 := Aside0.mk hI.bel; clear hI))
        go_ret
        exact ⟨rfl, HB6.out⟩
  · cases h

end Go.Proofs.Ytnoapomobflknaa.Xs
