/- The acts of a list: the reference and the program. -/
import Derived.Test.YthokeoocdkaffaaXl0
import Derived.Test.YthokeoocdkaffaaXlHarr7
import Derived.Test.YthokeoocdkaffaaXlHdo
import Derived.Test.YthokeoocdkaffaaXlHgood
import Derived.Test.YthokeoocdkaffaaXlHtoy
import Derived.OneCell
import Derived.Lib.SliceRun
import Derived.Shelf.Abstract
import Derived.Deep.RegionHeld3
import Derived.Outline
import Derived.BigQuiet
import Derived.Deep.QuietTactic
import Derived.RegionTactic
import Derived.BigRegion
namespace Go.Proofs.Ythokeoocdkaffaa.Xl
open Go.RowKit Go.Proofs.YthokeoocdkaffaaW.PrintWords Go.Proofs.YthokeoocdkaffaaW.PrintLast Go.Proofs.YthokeoocdkaffaaW.PrintMore
attribute [local go_sem] max2_int min2_int max_two min_two max_three min_three max_four min_four
set_option linter.unusedVariables false
set_option linter.unusedSimpArgs false
structure Yd where
  p0 : Nat → Int
  p1 : Nat → Int
  p2 : Nat → Int
  cn : Int
def outl : Option Yd → List Int
  | some y => y22 y.p0 y.p1 y.p2 y.cn
  | none => yz
theorem outl_form (o : Option Yd) : ∃ q0 q1 q2 cx, outl o = y22 q0 q1 q2 cx := by
  cases o
  · exact ⟨_, _, _, _, rfl⟩
  · exact ⟨_, _, _, _, rfl⟩
/-- The yard behind as many acts as are possible, and how many these are. -/
def runA (nx : Yd → S49 → Option Yd) : Yd → List S49 → Nat → Yd × Nat
  | y, [], i => (y, i)
  | y, a :: t, i => match nx y a with
    | none => (y, i)
    | some y' => runA nx y' t (i + 1)
theorem runA_none {nx : Yd → S49 → Option Yd} {y : Yd} {l : List S49} {i : Nat} {R : Yd × Nat} (h : runA nx y (l.drop i) i = R) (hi : i < l.length) (hn : nx y (rd_T49 l (i : Int)) = none) : R = (y, i) := by
  have hd : l.drop i = rd_T49 l (i : Int) :: l.drop (i + 1) := by
    rw [List.drop_eq_getElem_cons hi]
    congr 1
    simp [rd_T49, hi]
  rw [hd] at h
  simp only [runA, hn] at h
  exact h.symm
theorem runA_some {nx : Yd → S49 → Option Yd} {y y' : Yd} {l : List S49} {i : Nat} {R : Yd × Nat} (h : runA nx y (l.drop i) i = R) (hi : i < l.length) (hn : nx y (rd_T49 l (i : Int)) = some y') : runA nx y' (l.drop (i + 1)) (i + 1) = R := by
  have hd : l.drop i = rd_T49 l (i : Int) :: l.drop (i + 1) := by
    rw [List.drop_eq_getElem_cons hi]
    congr 1
    simp [rd_T49, hi]
  rw [hd] at h
  simp only [runA, hn] at h
  exact h
theorem runA_end {nx : Yd → S49 → Option Yd} {y : Yd} {l : List S49} {i : Nat} {R : Yd × Nat} (h : runA nx y (l.drop i) i = R) (hi : ¬ i < l.length) : R = (y, i) := by
  rw [List.drop_of_length_le (by omega)] at h
  exact h.symm
theorem execLoadRow {P : Program} {o : Oper} {a : Act} {W : World} {ty : TypeId} {x : Operand} {g : Nat} {t : TypeId} {cs : Array Value} {d : TypeDesc} (ho : o.op = .load ty x) (hx : a.eval x = .pointer (some ⟨g, 0, none⟩)) (hg : W.heap[g]? = some (.cells cs t (0, 0)))
    (hu : P.underlying ty = some d) (hd : (match d with | .struct _ | .array _ _ => true | _ => false) = true) (hi : (P.info? ty).map (·.size) = some cs.size) : (execOp a.eval o).run P W = .ok (.value (.agg cs)) W := by
  unfold execOp
  simp only [ho, hx, Instr.loadAt, Instr.sureAddr, Sem.run_bind, Sem.run_pure, Result.andThen_ok, run_loadVar_row W g t ty cs (0, 0) d hg hu hd hi]
set_option maxHeartbeats 16000000 in
set_option maxRecDepth 100000 in
theorem specDoActs_walk (k : Nat) (nx : Yd → S49 → Option Yd) (V : Yd → Prop) (hstep : ∀ y, V y → ∀ (a : S49) (w : World), Calls Try.prog 42 #[.agg (arr (y22 y.p0 y.p1 y.p2 y.cn)), .agg #[.int .i64 a.f0, .int .i64 a.f1, .int .i64 a.f2]] w fun e w' => e = .returned (.tuple #[.agg (arr (outl (nx y a))), .bool (nx y a).isSome]) ∧ Below w.heap.size w w') (hV : ∀ y a y', V y → nx y a = some y' → V y') (y : Yd) (g : Bool) (hg : goodF k y.p0 y.p1 y.p2 y.cn = some g) (hv : g = true → V y) (A : Option Addr) (c : Nat) (l : List S49) (w : World) (hl : l.length ≤ 1048576) (hr : Kd.C k49 w A l.length l) (hc : l.length ≤ c) :
    Calls Try.prog 28 #[.agg (arr (y22 y.p0 y.p1 y.p2 y.cn)), .slice A l.length c] w fun e w' => e = .returned (.tuple #[.agg (arr (if g = true then y22 (runA nx y l 0).1.p0 (runA nx y l 0).1.p1 (runA nx y l 0).1.p2 (runA nx y l 0).1.cn else yz)), .int .i64 (if g = true then ((runA nx y l 0).2 : Int) else 0), .bool g]) ∧ Below w.heap.size w w' := by
  have hu := Try.underlying25
  have hi : (Try.prog.info? 25).map (·.size) = some 22 := by kernel_rfl
  have hu49 := Try.underlying49
  have hi49 : (Try.prog.info? 49).map (·.size) = some 3 := by kernel_rfl
  obtain ⟨R, hR⟩ : ∃ R, R = runA nx y l 0 := ⟨_, rfl⟩
  rw [← hR]
  have HRR := Aside0.mk hR.symm
  have HST := Aside0.mk hstep
  have HV := Aside0.mk hV
  have HG0 := Aside0.mk hg
  have HVY := Aside0.mk hv
  have HL := Aside0.mk hl
  have HC0 := Aside0.mk hc
  have z1 := blk_alloc (blk_new w (.cells (arr (y22 y.p0 y.p1 y.p2 y.cn)) 25)) (.cells #[.int .i64 0, .int .i64 0, .int .i64 0, .int .i64 0, .int .i64 0, .int .i64 0, .int .i64 0, .int .i64 0, .int .i64 0, .int .i64 0, .int .i64 0, .int .i64 0, .int .i64 0, .int .i64 0, .int .i64 0, .int .i64 0, .int .i64 0, .int .i64 0, .int .i64 0, .int .i64 0, .int .i64 0, .int .i64 0] 25)
  have z2 := blk_new (w.alloc (.cells (arr (y22 y.p0 y.p1 y.p2 y.cn)) 25)) (.cells #[.int .i64 0, .int .i64 0, .int .i64 0, .int .i64 0, .int .i64 0, .int .i64 0, .int .i64 0, .int .i64 0, .int .i64 0, .int .i64 0, .int .i64 0, .int .i64 0, .int .i64 0, .int .i64 0, .int .i64 0, .int .i64 0, .int .i64 0, .int .i64 0, .int .i64 0, .int .i64 0, .int .i64 0, .int .i64 0] 25)
  rw [World.size_alloc] at z2
  obtain ⟨w1, hw1⟩ : ∃ w1, w1 = (w.alloc (.cells (arr (y22 y.p0 y.p1 y.p2 y.cn)) 25)).alloc (.cells #[.int .i64 0, .int .i64 0, .int .i64 0, .int .i64 0, .int .i64 0, .int .i64 0, .int .i64 0, .int .i64 0, .int .i64 0, .int .i64 0, .int .i64 0, .int .i64 0, .int .i64 0, .int .i64 0, .int .i64 0, .int .i64 0, .int .i64 0, .int .i64 0, .int .i64 0, .int .i64 0, .int .i64 0, .int .i64 0] 25) := ⟨_, rfl⟩
  have hb1 : Below w.heap.size w w1 := by rw [hw1]; exact below_alloc (below_alloc (Below.refl _ _) _) _
  have HSZ := Aside0.mk (show w1.heap.size = w.heap.size + 2 by rw [hw1]; simp only [World.size_alloc])
  rw [← hw1] at z1 z2
  have Z1 := Aside0.mk z1
  have R1 := Aside0.mk (show w1.heap[w.heap.size + 1]? = some (.cells (arr yz) 25 (0, 0)) from z2)
  have CW := Aside0.mk hr
  have B1 := Aside0.mk hb1
  clear z1 z2 hb1 hr hl hc hg hv hstep hV hR
  cases g with
  | false =>
    go_enter Try.func28, Try.ntmps28
    go_upto_region 1 with fail
    rw [← hw1]
    clear hw1
    go_wp2_with (first
      | ((with_reducible refine gate_dst (N := 11) rfl ?_); refine load_row_event rfl 25 (.tmp 2) rfl w.heap.size rfl 25 (arr (y22 y.p0 y.p1 y.p2 y.cn)) _ Z1.out hu rfl hi ?_)
      | (go_at_call 37; (refine (l12Good_walk k y.p0 y.p1 y.p2 y.cn false _ HG0.out).mono ?_); rintro e w2 ⟨rfl, hb⟩; have Z2 := Aside0.mk ((hb.block _ (lt_of_block Z1.out)).trans Z1.out); have R2 := Aside0.mk ((hb.block _ (lt_of_block R1.out)).trans R1.out); have B2 := Aside0.mk (below_step B1.out hb); have HG := Aside0.mk (show w.heap.size + 2 ≤ w2.heap.size by have h1_ := HSZ.out; have h2_ := hb.size; omega); clear hb)
      | ((with_reducible refine gate_dst (N := 14) rfl ?_); refine build_ev rfl 25 #[] rfl (arr yz) (by kernel_rfl) ?_)
      | ((with_reducible refine gate_store (t := 25) (p := 4) rfl ?_); refine store_row_event rfl rfl 25 (.tmp 4) (.tmp 14) rfl (w.heap.size + 1) (arr yz) rfl rfl 25 _ R2.out hi rfl (by kernel_rfl) ?_; intro wz hh ho; have HEND := Aside0.mk hh; have BEND := Aside0.mk (ho.below B2.out (show w.heap.size ≤ w.heap.size + 1 by omega)); clear hh ho))
    refine bodyPost_ret (v := .tuple #[.agg (arr yz), .int .i64 0, .bool false]) ?_ rfl ?_
    · exact results_list (rs := [.cell 4 25, .tmp 5, .tmp 6]) rfl (by simp) (.cell (w.heap.size + 1) 25 (arr yz) (0, 0) _ rfl HEND.out hu rfl (by kernel_rfl) (.tmp (.tmp .nil)))
    · exact ⟨rfl, BEND.out⟩
  | true =>
    have hvy := HVY.out rfl
    have HV0 := Aside0.mk hvy
    clear HVY hvy
    go_enter Try.func28, Try.ntmps28
    go_upto_region 1 with fail
    rw [← hw1]
    clear hw1
    go_upto_region 5 with (first
      | ((with_reducible refine gate_dst (N := 11) rfl ?_); refine load_row_event rfl 25 (.tmp 2) rfl w.heap.size rfl 25 (arr (y22 y.p0 y.p1 y.p2 y.cn)) _ Z1.out hu rfl hi ?_)
      | (go_at_call 37; (refine (l12Good_walk k y.p0 y.p1 y.p2 y.cn true _ HG0.out).mono ?_); rintro e w2 ⟨rfl, hb⟩; have Z2 := Aside0.mk ((hb.block _ (lt_of_block Z1.out)).trans Z1.out); have R2 := Aside0.mk ((hb.block _ (lt_of_block R1.out)).trans R1.out); have B2 := Aside0.mk (below_step B1.out hb); have HG := Aside0.mk (show w.heap.size + 2 ≤ w2.heap.size by have h1_ := HSZ.out; have h2_ := hb.size; omega); clear hb)
      | ((with_reducible refine gate_dst (N := 15) rfl ?_); refine load_row_event rfl 25 (.tmp 2) rfl w.heap.size rfl 25 (arr (y22 y.p0 y.p1 y.p2 y.cn)) _ Z2.out hu rfl hi ?_)
      | ((with_reducible refine gate_store (t := 25) (p := 7) rfl ?_); refine store_row_event rfl rfl 25 (.tmp 7) (.tmp 15) rfl w2.heap.size (arr (y22 y.p0 y.p1 y.p2 y.cn)) rfl rfl 25 _ (blk_new w2 _) hi rfl (by kernel_rfl) ?_; intro wz hh ho; obtain ⟨w3, e3⟩ : ∃ w3, w3 = wz := ⟨_, rfl⟩; have X3 := Aside0.mk hh; have HB23 := Aside0.mk (show Below w2.heap.size w2 wz from ho.below (below_alloc (Below.refl _ _) _) (Nat.le_refl _)); clear hh ho))
    subst e3
    have R3 := Aside0.mk ((HB23.out.block _ (lt_of_block R2.out)).trans R2.out)
    have B3 := Aside0.mk (below_lower B2.out HB23.out (by have h1_ := HG.out; omega))
    have HLT := Aside0.mk (show w.heap.size + 1 < w2.heap.size by have h1_ := HG.out; omega)
    clear Z1 R1 B1 Z2 R2 B2 HB23 HSZ HG
    generalize hg7 : w2.heap.size = g7 at *
    clear hg7
    go_loopg [8] l.length (fun kq v8 wr => ∃ (i : Nat) (yi : Yd), v8 = .int .i64 (i : Int) ∧ Aside0 (i + kq = l.length) ∧ Aside0 (V yi) ∧ Aside0 (runA nx yi (l.drop i) i = R) ∧ Aside0 (wr.heap[g7]? = some (.cells (arr (y22 yi.p0 yi.p1 yi.p2 yi.cn)) 25 (0, 0))) ∧ Aside0 (wr.heap[w.heap.size + 1]? = some (.cells (arr yz) 25 (0, 0))) ∧ Aside0 (Below w.heap.size w wr))
    case atStart => exact ⟨0, y, rfl, ⟨Nat.zero_add _⟩, HV0, ⟨HRR.out⟩, X3, R3, B3⟩
    case round =>
      clear X3 R3 B3 HV0 HRR
      obtain ⟨i, yi, rfl, HK, HVI, HRI, XI, RI, BI⟩ := hrel
      have CI := Aside0.mk (Kd.C_below CW.out BI.out)
      have hll := HL.out
      by_cases hi2 : i < l.length
      · obtain ⟨k1, hk1⟩ : ∃ k1, gk = k1 + 1 := ⟨gk - 1, by have := HK.out; omega⟩
        subst hk1
        have c1 : (i : Int) < (l.length : Int) := by omega
        have c0 : 0 ≤ (i : Int) := by omega
        have E1 := Aside0.mk (show wrap64 ((i : Int) + 1) = ((i + 1 : Nat) : Int) by unfold wrap64; omega)
        have HI := Aside0.mk hi2
        obtain ⟨ad, ea, hx0, hx1, hx2⟩ := at_T49 CI.out (i : Int) c0 c1
        cases ea
        clear hx0 hx1 hx2
        obtain ⟨wq, rfl⟩ : ∃ wq, wq = wr := ⟨_, rfl⟩
        have d1 : decide ((i : Int) < (l.length : Int)) = true := decide_eq_true c1
        go_upto_region 7 with fail
        go_cut [9, 10] from 16 to 35 (fun v9 v10 wx => ∃ g9 : Nat, v9 = .pointer (some ⟨g9, 0, none⟩) ∧ v10 = .bool (nx yi (rd_T49 l (i : Int))).isSome ∧ Aside0 (wx.heap[g9]? = some (.cells (arr (outl (nx yi (rd_T49 l (i : Int))))) 25 (0, 0))) ∧ Aside0 (wq.heap.size ≤ g9) ∧ Aside0 (Below wq.heap.size wq wx))
        case first =>
          have hos : (arr (outl (nx yi (rd_T49 l (i : Int))))).size = 22 := by cases nx yi (rd_T49 l (i : Int)) <;> rfl
          have ho1 : (arr (outl (nx yi (rd_T49 l (i : Int))))).all (·.oneCell') = true := by cases nx yi (rd_T49 l (i : Int)) <;> kernel_rfl
          have HOS := Aside0.mk hos
          have HO1 := Aside0.mk ho1
          clear hos ho1
          refine wp_region_held_drew (S := (fun W => Below wq.heap.size wq W)) (by kernel_rfl) (below_drew (Below.refl _ _)) (fun hHeld => ?_)
          refine wpAnyH_take (i := 0) (oi := ?oimq0) (v := (.agg (arr (y22 yi.p0 yi.p1 yi.p2 yi.cn)))) ?himq0 (by kernel_rfl) (by kernel_rfl) (by kernel_rfl) ?hQmq0 ?hymq0 hHeld ?hmq0
          case himq0 => (simp only [gAx, gSx, gZx]; rfl)
          case hQmq0 => exact fun _ _ _ h => h
          case hymq0 => exact Or.inl ⟨by rfl, fun w_ hSw => execLoadRow rfl rfl ((hSw.block _ (lt_of_block XI.out)).trans XI.out) hu rfl hi⟩
          try simp only [Act.put, sAx, sZx, sSx]
          refine wpAnyH_take (i := 1) (oi := ?oimq1) (v := ?vmq1) ?himq1 (by kernel_rfl) (by kernel_rfl) (by kernel_rfl) ?hQmq1 ?hymq1 hHeld ?hmq1
          case himq1 => (simp only [gAx, gSx, gZx]; rfl)
          case hQmq1 => exact fun _ _ _ h => h
          case hymq1 => exact Or.inl ⟨by rfl, by intro w_ hSw; (try dsimp only at hSw); first | (go_simp; done) | (go_simp; with_reducible rfl)⟩
          try simp only [Act.put, sAx, sZx, sSx]
          refine wpAnyH_take (i := 2) (oi := ?oimq2) (v := ?vmq2) ?himq2 (by kernel_rfl) (by kernel_rfl) (by kernel_rfl) ?hQmq2 ?hymq2 hHeld ?hmq2
          case himq2 => (simp only [gAx, gSx, gZx]; rfl)
          case hQmq2 => exact fun _ _ _ h => h
          case hymq2 => exact Or.inl ⟨by rfl, by intro w_ hSw; (try dsimp only at hSw); first | (go_simp; done) | (go_simp; with_reducible rfl)⟩
          try simp only [Act.put, sAx, sZx, sSx]
          refine wpAnyH_take (i := 3) (oi := ?oimq3) (v := ?vmq3) ?himq3 (by kernel_rfl) (by kernel_rfl) (by kernel_rfl) ?hQmq3 ?hymq3 hHeld ?hmq3
          case himq3 => (simp only [gAx, gSx, gZx]; rfl)
          case hQmq3 => exact fun _ _ _ h => h
          case hymq3 => exact Or.inl ⟨by rfl, by intro w_ hSw; (try dsimp only at hSw); first | (go_simp; done) | (go_simp; with_reducible rfl)⟩
          try simp only [Act.put, sAx, sZx, sSx]
          refine wpAnyH_take (i := 4) (oi := ?oimq4) (v := (.agg #[.int .i64 (rd_T49 l (i : Int)).f0, .int .i64 (rd_T49 l (i : Int)).f1, .int .i64 (rd_T49 l (i : Int)).f2])) ?himq4 (by kernel_rfl) (by kernel_rfl) (by kernel_rfl) ?hQmq4 ?hymq4 hHeld ?hmq4
          case himq4 => (simp only [gAx, gSx, gZx]; rfl)
          case hQmq4 => exact fun _ _ _ h => h
          case hymq4 => exact Or.inl ⟨by rfl, fun w_ hSw => by (obtain ⟨ad_, e_, h0_, h1_, h2_⟩ := at_T49 (Kd.C_below CI.out hSw) (i : Int) c0 c1; cases e_; rw [Int.toNat_natCast] at h0_ h1_ h2_; first | (go_simp; done) | (go_simp; with_reducible rfl))⟩
          try simp only [Act.put, sAx, sZx, sSx]
          refine wpAnyH_ready (rs := [5, 9]) (by kernel_rfl) (by simp) ?_
          refine AllReadyH.cons (o := ?ocm5) ?hcm5 (fun K hK => ?hkm5) (AllReadyH.cons (o := ?ocm9) ?hcm9 (fun K hK => ?hkm9) AllReadyH.nil)
          case hcm5 => (simp only [gAx, gSx, gZx]; rfl)
          case hcm9 => (simp only [gAx, gSx, gZx]; rfl)
          · go_simp
            go_at_call 42
            refine (HST.out yi HVI.out (rd_T49 l (i : Int)) _).mono ?_
            rintro e w_d ⟨rfl, hb⟩
            try dsimp only
            refine hK.out _ _ (below_step hHeld hb) (fun hHeld => ?_)
            clear hK K hb
            try simp only [Act.put, sAx, sZx, sSx]
            refine wpAnyH_take (i := 6) (oi := ?oimcy6) (v := ?vmcy6) ?himcy6 (by kernel_rfl) (by kernel_rfl) (by kernel_rfl) ?hQmcy6 ?hymcy6 hHeld ?hmcy6
            case himcy6 => (simp only [gAx, gSx, gZx]; rfl)
            case hQmcy6 => exact fun _ _ _ h => h
            case hymcy6 => exact Or.inl ⟨by rfl, by intro w_ hSw; (try dsimp only at hSw); first | (go_simp; done) | (go_simp; with_reducible rfl)⟩
            try simp only [Act.put, sAx, sZx, sSx]
            refine wpAnyH_take (i := 7) (oi := ?oimcy7) (v := ?vmcy7) ?himcy7 (by kernel_rfl) (by kernel_rfl) (by kernel_rfl) ?hQmcy7 ?hymcy7 hHeld ?hmcy7
            case himcy7 => (simp only [gAx, gSx, gZx]; rfl)
            case hQmcy7 => exact fun _ _ _ h => h
            case hymcy7 => exact Or.inl ⟨by rfl, by intro w_ hSw; (try dsimp only at hSw); first | (go_simp; done) | (go_simp; with_reducible rfl)⟩
            try simp only [Act.put, sAx, sZx, sSx]
            refine wpAnyH_take (i := 8) (oi := ?oimcy8) (v := ?vmcy8) ?himcy8 (by kernel_rfl) (by kernel_rfl) (by kernel_rfl) ?hQmcy8 ?hymcy8 hHeld ?hmcy8
            case himcy8 => (simp only [gAx, gSx, gZx]; rfl)
            case hQmcy8 => exact fun _ _ _ h => h
            case hymcy8 => exact Or.inl ⟨by rfl, by intro w_ hSw; (try dsimp only at hSw); first | (go_simp; done) | (go_simp; with_reducible rfl)⟩
            try simp only [Act.put, sAx, sZx, sSx]
            refine wpAnyH_ready (rs := [9]) (by kernel_rfl) (by simp) ?_
            refine AllReadyH.cons (o := ?ocmca9) ?hcmca9 (fun K hK => ?hkmca9) AllReadyH.nil
            case hcmca9 => (simp only [gAx, gSx, gZx]; rfl)
            go_simp
            have LB := Aside0.mk (hHeld).size
            refine hK.out _ _ (below_alloc hHeld _) (fun hHeld => ?_)
            have XA := Aside0.mk (blk_new (w_d) (.cells #[.int .i64 0, .int .i64 0, .int .i64 0, .int .i64 0, .int .i64 0, .int .i64 0, .int .i64 0, .int .i64 0, .int .i64 0, .int .i64 0, .int .i64 0, .int .i64 0, .int .i64 0, .int .i64 0, .int .i64 0, .int .i64 0, .int .i64 0, .int .i64 0, .int .i64 0, .int .i64 0, .int .i64 0, .int .i64 0] 25))
            clear hK K
            try simp only [Act.put, sAx, sZx, sSx]
            refine wpAnyH_ready (rs := [10]) (by kernel_rfl) (by simp) ?_
            refine AllReadyH.cons (o := ?ocmcs10) ?hcmcs10 (fun K hK => ?hkmcs10) AllReadyH.nil
            case hcmcs10 => (simp only [gAx, gSx, gZx]; rfl)
            rw [if_pos (by rfl)]
            refine wp_store_row 25 (.tmp 9) (.tmp 29) rfl _ (arr (outl (nx yi (rd_T49 l (i : Int))))) rfl rfl 25 _ XA.out (by rw [HOS.out]; exact hi) (by rw [HOS.out]; rfl) HO1.out ?_
            refine hK.out _ _ (below_row1 hHeld (by have h1_ := LB.out; have h2_ : wq.drew.heap.size = wq.heap.size := rfl; omega) _) (fun hHeld => ?_)
            have XB := Aside0.mk (setRow_heap _ _ _ (arr (outl (nx yi (rd_T49 l (i : Int))))) _ _ XA.out)
            clear hK K XA
            try simp only [Act.put, sAx, sZx, sSx]
            refine wpAnyH_take (i := 11) (oi := ?oimcz11) (v := ?vmcz11) ?himcz11 (by kernel_rfl) (by kernel_rfl) (by kernel_rfl) ?hQmcz11 ?hymcz11 hHeld ?hmcz11
            case himcz11 => (simp only [gAx, gSx, gZx]; rfl)
            case hQmcz11 => exact fun _ _ _ h => h
            case hymcz11 => exact Or.inl ⟨by rfl, by intro w_ hSw; (try dsimp only at hSw); first | (go_simp; done) | (go_simp; with_reducible rfl)⟩
            try simp only [Act.put, sAx, sZx, sSx]
            refine wpAnyH_done (by kernel_rfl) ?_ _
            go_wp2_with (fail)
            go_meet
            case rel => exact ⟨_, rfl, rfl, XB, ⟨by have h1_ := LB.out; have h2_ : wq.drew.heap.size = wq.heap.size := rfl; omega⟩, ⟨hHeld⟩⟩
          · go_simp
            have LB := Aside0.mk (hHeld).size
            refine hK.out _ _ (below_alloc hHeld _) (fun hHeld => ?_)
            have XA := Aside0.mk (blk_new (wq.drew) (.cells #[.int .i64 0, .int .i64 0, .int .i64 0, .int .i64 0, .int .i64 0, .int .i64 0, .int .i64 0, .int .i64 0, .int .i64 0, .int .i64 0, .int .i64 0, .int .i64 0, .int .i64 0, .int .i64 0, .int .i64 0, .int .i64 0, .int .i64 0, .int .i64 0, .int .i64 0, .int .i64 0, .int .i64 0, .int .i64 0] 25))
            clear hK K
            try simp only [Act.put, sAx, sZx, sSx]
            refine wpAnyH_ready (rs := [5]) (by kernel_rfl) (by simp) ?_
            refine AllReadyH.cons (o := ?ocma5) ?hcma5 (fun K hK => ?hkma5) AllReadyH.nil
            case hcma5 => (simp only [gAx, gSx, gZx]; rfl)
            go_simp
            go_at_call 42
            refine (HST.out yi HVI.out (rd_T49 l (i : Int)) _).mono ?_
            rintro e w_ad ⟨rfl, hb⟩
            have XA := Aside0.mk ((hb.block _ (lt_of_block XA.out)).trans XA.out)
            try dsimp only
            refine hK.out _ _ (below_step hHeld hb) (fun hHeld => ?_)
            clear hK K hb
            try simp only [Act.put, sAx, sZx, sSx]
            refine wpAnyH_take (i := 6) (oi := ?oimacy6) (v := ?vmacy6) ?himacy6 (by kernel_rfl) (by kernel_rfl) (by kernel_rfl) ?hQmacy6 ?hymacy6 hHeld ?hmacy6
            case himacy6 => (simp only [gAx, gSx, gZx]; rfl)
            case hQmacy6 => exact fun _ _ _ h => h
            case hymacy6 => exact Or.inl ⟨by rfl, by intro w_ hSw; (try dsimp only at hSw); first | (go_simp; done) | (go_simp; with_reducible rfl)⟩
            try simp only [Act.put, sAx, sZx, sSx]
            refine wpAnyH_take (i := 7) (oi := ?oimacy7) (v := ?vmacy7) ?himacy7 (by kernel_rfl) (by kernel_rfl) (by kernel_rfl) ?hQmacy7 ?hymacy7 hHeld ?hmacy7
            case himacy7 => (simp only [gAx, gSx, gZx]; rfl)
            case hQmacy7 => exact fun _ _ _ h => h
            case hymacy7 => exact Or.inl ⟨by rfl, by intro w_ hSw; (try dsimp only at hSw); first | (go_simp; done) | (go_simp; with_reducible rfl)⟩
            try simp only [Act.put, sAx, sZx, sSx]
            refine wpAnyH_take (i := 8) (oi := ?oimacy8) (v := ?vmacy8) ?himacy8 (by kernel_rfl) (by kernel_rfl) (by kernel_rfl) ?hQmacy8 ?hymacy8 hHeld ?hmacy8
            case himacy8 => (simp only [gAx, gSx, gZx]; rfl)
            case hQmacy8 => exact fun _ _ _ h => h
            case hymacy8 => exact Or.inl ⟨by rfl, by intro w_ hSw; (try dsimp only at hSw); first | (go_simp; done) | (go_simp; with_reducible rfl)⟩
            try simp only [Act.put, sAx, sZx, sSx]
            refine wpAnyH_ready (rs := [10]) (by kernel_rfl) (by simp) ?_
            refine AllReadyH.cons (o := ?ocmacs10) ?hcmacs10 (fun K hK => ?hkmacs10) AllReadyH.nil
            case hcmacs10 => (simp only [gAx, gSx, gZx]; rfl)
            rw [if_pos (by rfl)]
            refine wp_store_row 25 (.tmp 9) (.tmp 29) rfl _ (arr (outl (nx yi (rd_T49 l (i : Int))))) rfl rfl 25 _ XA.out (by rw [HOS.out]; exact hi) (by rw [HOS.out]; rfl) HO1.out ?_
            refine hK.out _ _ (below_row1 hHeld (by have h1_ := LB.out; have h2_ : wq.drew.heap.size = wq.heap.size := rfl; omega) _) (fun hHeld => ?_)
            have XB := Aside0.mk (setRow_heap _ _ _ (arr (outl (nx yi (rd_T49 l (i : Int))))) _ _ XA.out)
            clear hK K XA
            try simp only [Act.put, sAx, sZx, sSx]
            refine wpAnyH_take (i := 11) (oi := ?oimacz11) (v := ?vmacz11) ?himacz11 (by kernel_rfl) (by kernel_rfl) (by kernel_rfl) ?hQmacz11 ?hymacz11 hHeld ?hmacz11
            case himacz11 => (simp only [gAx, gSx, gZx]; rfl)
            case hQmacz11 => exact fun _ _ _ h => h
            case hymacz11 => exact Or.inl ⟨by rfl, by intro w_ hSw; (try dsimp only at hSw); first | (go_simp; done) | (go_simp; with_reducible rfl)⟩
            try simp only [Act.put, sAx, sZx, sSx]
            refine wpAnyH_done (by kernel_rfl) ?_ _
            go_wp2_with (fail)
            go_meet
            case rel => exact ⟨_, rfl, rfl, XB, ⟨by have h1_ := LB.out; have h2_ : wq.drew.heap.size = wq.heap.size := rfl; omega⟩, ⟨hHeld⟩⟩
        case rest =>
          obtain ⟨g9, rfl, rfl, X9, HG9, HB9⟩ := hcut
          have X7 := Aside0.mk ((HB9.out.block _ (lt_of_block XI.out)).trans XI.out)
          have R7 := Aside0.mk ((HB9.out.block _ (lt_of_block RI.out)).trans RI.out)
          have B7 := Aside0.mk (below_lower BI.out HB9.out BI.out.size)
          have HN97 := Aside0.mk (show g9 ≠ g7 ∧ g9 ≠ w.heap.size + 1 by have h1_ := lt_of_block XI.out; have h2_ := lt_of_block RI.out; have h3_ := HG9.out; omega)
          cases hnx : nx yi (rd_T49 l (i : Int)) with
          | none =>
            have hrr := runA_none HRI.out HI.out hnx
            have HRE := Aside0.mk hrr
            clear hnx hrr
            go_wp2_with (first
              | ((with_reducible refine gate_dst (N := 33) rfl ?_); refine load_row_event rfl 25 (.tmp 7) rfl g7 rfl 25 (arr (y22 yi.p0 yi.p1 yi.p2 yi.cn)) _ X7.out hu rfl hi ?_)
              | ((with_reducible refine gate_store (t := 25) (p := 4) rfl ?_); refine store_row_event rfl rfl 25 (.tmp 4) (.tmp 33) rfl (w.heap.size + 1) (arr (y22 yi.p0 yi.p1 yi.p2 yi.cn)) rfl rfl 25 _ R7.out hi rfl (by kernel_rfl) ?_; intro wz hh ho; have HEND := Aside0.mk hh; have BEND := Aside0.mk (ho.below B7.out (show w.heap.size ≤ w.heap.size + 1 by omega)); clear hh ho))
            refine bodyPost_ret (v := .tuple #[.agg (arr (y22 yi.p0 yi.p1 yi.p2 yi.cn)), .int .i64 (i : Int), .bool true]) ?_ rfl ?_
            · exact results_list (rs := [.cell 4 25, .tmp 5, .tmp 6]) rfl (by simp) (.cell (w.heap.size + 1) 25 (arr (y22 yi.p0 yi.p1 yi.p2 yi.cn)) (0, 0) _ rfl HEND.out hu rfl (by kernel_rfl) (.tmp (.tmp .nil)))
            · exact ⟨by first | (rw [HRE.out]; done) | (rw [HRE.out]; rfl), BEND.out⟩
          | some y2 =>
            have hrr := runA_some HRI.out HI.out hnx
            have HRE := Aside0.mk hrr
            have HVN := Aside0.mk (HV.out _ _ _ HVI.out hnx)
            have x9 := X9.out
            rw [hnx] at x9
            have X9b := Aside0.mk (show wc.heap[g9]? = some (.cells (arr (y22 y2.p0 y2.p1 y2.p2 y2.cn)) 25 (0, 0)) from x9)
            clear hnx hrr x9 X9
            go_wp2_with (first
              | ((with_reducible refine gate_dst (N := 35) rfl ?_); refine load_row_event rfl 25 (.tmp 9) rfl g9 rfl 25 (arr (y22 y2.p0 y2.p1 y2.p2 y2.cn)) _ X9b.out hu rfl hi ?_)
              | ((with_reducible refine gate_store (t := 25) (p := 7) rfl ?_); refine store_row_event rfl rfl 25 (.tmp 7) (.tmp 35) rfl g7 (arr (y22 y2.p0 y2.p1 y2.p2 y2.cn)) rfl rfl 25 _ X7.out hi (by rfl) (by kernel_rfl) ?_; intro wz hh ho; obtain ⟨w8, e8⟩ : ∃ w8, w8 = wz := ⟨_, rfl⟩; have X8 := Aside0.mk hh; have HO8 := Aside0.mk ho; clear hh ho))
            subst e8
            go_roundg k1
            case measure => omega
            case rel =>
              refine ⟨i + 1, y2, by first | rw [E1.out] | simp, ⟨by have := HK.out; omega⟩, HVN, HRE, X8, ⟨HO8.out.blk (by have h1_ := HLT.out; omega) R7.out⟩, ⟨HO8.out.below B7.out (by have h1_ := HLT.out; omega)⟩⟩
      · have c1 : ¬ (i : Int) < (l.length : Int) := by omega
        have d1 : decide ((i : Int) < (l.length : Int)) = false := decide_eq_false c1
        have HRE := Aside0.mk (runA_end HRI.out hi2)
        have HII := Aside0.mk (show i = l.length by have := HK.out; omega)
        go_wp2_with (first
          | ((with_reducible refine gate_dst (N := 36) rfl ?_); refine load_row_event rfl 25 (.tmp 7) rfl g7 rfl 25 (arr (y22 yi.p0 yi.p1 yi.p2 yi.cn)) _ XI.out hu rfl hi ?_)
          | ((with_reducible refine gate_store (t := 25) (p := 4) rfl ?_); refine store_row_event rfl rfl 25 (.tmp 4) (.tmp 36) rfl (w.heap.size + 1) (arr (y22 yi.p0 yi.p1 yi.p2 yi.cn)) rfl rfl 25 _ RI.out hi rfl (by kernel_rfl) ?_; intro wz hh ho; have HEND := Aside0.mk hh; have BEND := Aside0.mk (ho.below BI.out (show w.heap.size ≤ w.heap.size + 1 by omega)); clear hh ho))
        refine bodyPost_ret (v := .tuple #[.agg (arr (y22 yi.p0 yi.p1 yi.p2 yi.cn)), .int .i64 (l.length : Int), .bool true]) ?_ rfl ?_
        · exact results_list (rs := [.cell 4 25, .tmp 5, .tmp 6]) rfl (by simp) (.cell (w.heap.size + 1) 25 (arr (y22 yi.p0 yi.p1 yi.p2 yi.cn)) (0, 0) _ rfl HEND.out hu rfl (by kernel_rfl) (.tmp (.tmp .nil)))
        · exact ⟨by first | (rw [HRE.out, HII.out]; done) | (rw [HRE.out, HII.out]; rfl), BEND.out⟩
set_option maxHeartbeats 16000000 in
set_option maxRecDepth 100000 in
theorem implDoActs_walk (k : Nat) (nx : Yd → S49 → Option Yd) (V : Yd → Prop) (hstep : ∀ y, V y → ∀ (a : S49) (w : World), Calls Try.prog 26 #[.agg (arr (y22 y.p0 y.p1 y.p2 y.cn)), .agg #[.int .i64 a.f0, .int .i64 a.f1, .int .i64 a.f2]] w fun e w' => e = .returned (.tuple #[.agg (arr (outl (nx y a))), .bool (nx y a).isSome]) ∧ Below w.heap.size w w') (hV : ∀ y a y', V y → nx y a = some y' → V y') (y : Yd) (g : Bool) (hg : partsF k y.p0 y.p1 y.p2 y.cn = some g) (hv : g = true → V y) (A : Option Addr) (c : Nat) (l : List S49) (w : World) (hl : l.length ≤ 1048576) (hr : Kd.C k49 w A l.length l) (hc : l.length ≤ c) :
    Calls Try.prog 30 #[.agg (arr (y22 y.p0 y.p1 y.p2 y.cn)), .slice A l.length c] w fun e w' => e = .returned (.tuple #[.agg (arr (if g = true then y22 (runA nx y l 0).1.p0 (runA nx y l 0).1.p1 (runA nx y l 0).1.p2 (runA nx y l 0).1.cn else yz)), .int .i64 (if g = true then ((runA nx y l 0).2 : Int) else 0), .bool g]) ∧ Below w.heap.size w w' := by
  have hu := Try.underlying25
  have hi : (Try.prog.info? 25).map (·.size) = some 22 := by kernel_rfl
  have hu49 := Try.underlying49
  have hi49 : (Try.prog.info? 49).map (·.size) = some 3 := by kernel_rfl
  obtain ⟨R, hR⟩ : ∃ R, R = runA nx y l 0 := ⟨_, rfl⟩
  rw [← hR]
  have HRR := Aside0.mk hR.symm
  have HST := Aside0.mk hstep
  have HV := Aside0.mk hV
  have HG0 := Aside0.mk hg
  have HVY := Aside0.mk hv
  have HL := Aside0.mk hl
  have HC0 := Aside0.mk hc
  have z1 := blk_alloc (blk_new w (.cells (arr (y22 y.p0 y.p1 y.p2 y.cn)) 25)) (.cells #[.int .i64 0, .int .i64 0, .int .i64 0, .int .i64 0, .int .i64 0, .int .i64 0, .int .i64 0, .int .i64 0, .int .i64 0, .int .i64 0, .int .i64 0, .int .i64 0, .int .i64 0, .int .i64 0, .int .i64 0, .int .i64 0, .int .i64 0, .int .i64 0, .int .i64 0, .int .i64 0, .int .i64 0, .int .i64 0] 25)
  have z2 := blk_new (w.alloc (.cells (arr (y22 y.p0 y.p1 y.p2 y.cn)) 25)) (.cells #[.int .i64 0, .int .i64 0, .int .i64 0, .int .i64 0, .int .i64 0, .int .i64 0, .int .i64 0, .int .i64 0, .int .i64 0, .int .i64 0, .int .i64 0, .int .i64 0, .int .i64 0, .int .i64 0, .int .i64 0, .int .i64 0, .int .i64 0, .int .i64 0, .int .i64 0, .int .i64 0, .int .i64 0, .int .i64 0] 25)
  rw [World.size_alloc] at z2
  obtain ⟨w1, hw1⟩ : ∃ w1, w1 = (w.alloc (.cells (arr (y22 y.p0 y.p1 y.p2 y.cn)) 25)).alloc (.cells #[.int .i64 0, .int .i64 0, .int .i64 0, .int .i64 0, .int .i64 0, .int .i64 0, .int .i64 0, .int .i64 0, .int .i64 0, .int .i64 0, .int .i64 0, .int .i64 0, .int .i64 0, .int .i64 0, .int .i64 0, .int .i64 0, .int .i64 0, .int .i64 0, .int .i64 0, .int .i64 0, .int .i64 0, .int .i64 0] 25) := ⟨_, rfl⟩
  have hb1 : Below w.heap.size w w1 := by rw [hw1]; exact below_alloc (below_alloc (Below.refl _ _) _) _
  have HSZ := Aside0.mk (show w1.heap.size = w.heap.size + 2 by rw [hw1]; simp only [World.size_alloc])
  rw [← hw1] at z1 z2
  have Z1 := Aside0.mk z1
  have R1 := Aside0.mk (show w1.heap[w.heap.size + 1]? = some (.cells (arr yz) 25 (0, 0)) from z2)
  have CW := Aside0.mk hr
  have B1 := Aside0.mk hb1
  clear z1 z2 hb1 hr hl hc hg hv hstep hV hR
  cases g with
  | false =>
    go_enter Try.func30, Try.ntmps30
    go_upto_region 1 with fail
    rw [← hw1]
    clear hw1
    go_wp2_with (first
      | ((with_reducible refine gate_dst (N := 11) rfl ?_); refine load_row_event rfl 25 (.tmp 2) rfl w.heap.size rfl 25 (arr (y22 y.p0 y.p1 y.p2 y.cn)) _ Z1.out hu rfl hi ?_)
      | (go_at_call 16; (refine (implIsYard_walk k y.p0 y.p1 y.p2 y.cn false _ HG0.out).mono ?_); rintro e w2 ⟨rfl, hb⟩; have Z2 := Aside0.mk ((hb.block _ (lt_of_block Z1.out)).trans Z1.out); have R2 := Aside0.mk ((hb.block _ (lt_of_block R1.out)).trans R1.out); have B2 := Aside0.mk (below_step B1.out hb); clear hb)
      | ((with_reducible refine gate_dst (N := 14) rfl ?_); refine build_ev rfl 25 #[] rfl (arr yz) (by kernel_rfl) ?_)
      | ((with_reducible refine gate_store (t := 25) (p := 4) rfl ?_); refine store_row_event rfl rfl 25 (.tmp 4) (.tmp 14) rfl (w.heap.size + 1) (arr yz) rfl rfl 25 _ R2.out hi rfl (by kernel_rfl) ?_; intro wz hh ho; have HEND := Aside0.mk hh; have BEND := Aside0.mk (ho.below B2.out (show w.heap.size ≤ w.heap.size + 1 by omega)); clear hh ho))
    refine bodyPost_ret (v := .tuple #[.agg (arr yz), .int .i64 0, .bool false]) ?_ rfl ?_
    · exact results_list (rs := [.cell 4 25, .tmp 5, .tmp 6]) rfl (by simp) (.cell (w.heap.size + 1) 25 (arr yz) (0, 0) _ rfl HEND.out hu rfl (by kernel_rfl) (.tmp (.tmp .nil)))
    · exact ⟨rfl, BEND.out⟩
  | true =>
    have hvy := HVY.out rfl
    have HV0 := Aside0.mk hvy
    clear HVY hvy
    go_enter Try.func30, Try.ntmps30
    go_upto_region 1 with fail
    rw [← hw1]
    clear hw1
    go_wp2_with (first
      | ((with_reducible refine gate_dst (N := 11) rfl ?_); refine load_row_event rfl 25 (.tmp 2) rfl w.heap.size rfl 25 (arr (y22 y.p0 y.p1 y.p2 y.cn)) _ Z1.out hu rfl hi ?_)
      | (go_at_call 16; (refine (implIsYard_walk k y.p0 y.p1 y.p2 y.cn true _ HG0.out).mono ?_); rintro e w2 ⟨rfl, hb⟩; have Z2 := Aside0.mk ((hb.block _ (lt_of_block Z1.out)).trans Z1.out); have R2 := Aside0.mk ((hb.block _ (lt_of_block R1.out)).trans R1.out); have B2 := Aside0.mk (below_step B1.out hb); clear hb))
    clear Z1 R1 B1 HSZ
    go_loopg [17] l.length (fun kq v17 wr => ∃ (i : Nat) (yi : Yd), v17 = .int .i64 (i : Int) ∧ Aside0 (i + kq = l.length) ∧ Aside0 (V yi) ∧ Aside0 (runA nx yi (l.drop i) i = R) ∧ Aside0 (wr.heap[w.heap.size]? = some (.cells (arr (y22 yi.p0 yi.p1 yi.p2 yi.cn)) 25 (0, 0))) ∧ Aside0 (wr.heap[w.heap.size + 1]? = some (.cells (arr yz) 25 (0, 0))) ∧ Aside0 (Below w.heap.size w wr))
    case atStart => exact ⟨0, y, rfl, ⟨Nat.zero_add _⟩, HV0, ⟨HRR.out⟩, Z2, R2, B2⟩
    case round =>
      clear Z2 R2 B2 HV0 HRR
      obtain ⟨i, yi, rfl, HK, HVI, HRI, ZI, RI, BI⟩ := hrel
      have CI := Aside0.mk (Kd.C_below CW.out BI.out)
      have hll := HL.out
      by_cases hi2 : i < l.length
      · obtain ⟨k1, hk1⟩ : ∃ k1, gk = k1 + 1 := ⟨gk - 1, by have := HK.out; omega⟩
        subst hk1
        have c1 : (i : Int) < (l.length : Int) := by omega
        have c0 : 0 ≤ (i : Int) := by omega
        have E1 := Aside0.mk (show wrap64 ((i : Int) + 1) = ((i + 1 : Nat) : Int) by unfold wrap64; omega)
        have HI := Aside0.mk hi2
        obtain ⟨ad, ea, hx0, hx1, hx2⟩ := at_T49 CI.out (i : Int) c0 c1
        cases ea
        rw [Int.toNat_natCast] at hx0 hx1 hx2
        obtain ⟨wq, rfl⟩ : ∃ wq, wq = wr := ⟨_, rfl⟩
        have d1 : decide ((i : Int) < (l.length : Int)) = true := decide_eq_true c1
        obtain ⟨o, ho⟩ : ∃ o, o = nx yi (rd_T49 l (i : Int)) := ⟨_, rfl⟩
        have hstp := HST.out yi HVI.out (rd_T49 l (i : Int))
        rw [← ho] at hstp
        have HSTP := Aside0.mk hstp
        have HO := Aside0.mk ho.symm
        have HLT := Aside0.mk (show w.heap.size + 1 < wq.heap.size from lt_of_block RI.out)
        clear ho hstp
        cases o with
        | none =>
          have HRE := Aside0.mk (runA_none HRI.out HI.out HO.out)
          go_wp2_with (first
            | ((with_reducible refine gate_store (t := 49) (p := 8) rfl ?_); refine store_row_event rfl rfl 49 (.tmp 8) (.tmp 21) rfl wq.heap.size #[.int .i64 (rd_T49 l (i : Int)).f0, .int .i64 (rd_T49 l (i : Int)).f1, .int .i64 (rd_T49 l (i : Int)).f2] rfl rfl 49 _ (blk_new wq _) hi49 rfl (by kernel_rfl) ?_; intro wz hh ho; obtain ⟨w4, e4⟩ : ∃ w4, w4 = wz := ⟨_, rfl⟩; have A4 := Aside0.mk hh; have W4 := Aside0.mk (show Below wq.heap.size wq wz from ho.below (below_alloc (Below.refl _ _) _) (Nat.le_refl _)); have Z4 := Aside0.mk ((W4.out.block _ (lt_of_block ZI.out)).trans ZI.out); have R4 := Aside0.mk ((W4.out.block _ (lt_of_block RI.out)).trans RI.out); have B4 := Aside0.mk (below_lower BI.out W4.out BI.out.size); clear hh ho)
            | ((with_reducible refine gate_dst (N := 23) rfl ?_); refine load_row_event rfl 25 (.tmp 2) rfl w.heap.size rfl 25 (arr (y22 yi.p0 yi.p1 yi.p2 yi.cn)) _ Z4.out hu rfl hi ?_)
            | ((with_reducible refine gate_dst (N := 24) rfl ?_); refine load_row_event rfl 49 (.tmp 8) rfl wq.heap.size rfl 49 #[.int .i64 (rd_T49 l (i : Int)).f0, .int .i64 (rd_T49 l (i : Int)).f1, .int .i64 (rd_T49 l (i : Int)).f2] _ A4.out hu49 rfl hi49 ?_)
            | (go_at_call 26; (refine (HSTP.out _).mono ?_); rintro e w5 ⟨rfl, hb⟩; have Z5 := Aside0.mk ((hb.block _ (lt_of_block Z4.out)).trans Z4.out); have R5 := Aside0.mk ((hb.block _ (lt_of_block R4.out)).trans R4.out); have B5 := Aside0.mk (below_step B4.out hb); clear hb)
            | ((with_reducible refine gate_store (t := 25) (p := 9) rfl ?_); refine store_row_event rfl rfl 25 (.tmp 9) (.tmp 26) rfl w5.heap.size (arr yz) rfl rfl 25 _ (blk_new w5 _) hi (by rfl) (by kernel_rfl) ?_; intro wz hh ho; obtain ⟨w6, e6⟩ : ∃ w6, w6 = wz := ⟨_, rfl⟩; have X6 := Aside0.mk hh; have W6 := Aside0.mk (show Below w5.heap.size w5 wz from ho.below (below_alloc (Below.refl _ _) _) (Nat.le_refl _)); have Z6 := Aside0.mk ((W6.out.block _ (lt_of_block Z5.out)).trans Z5.out); have R6 := Aside0.mk ((W6.out.block _ (lt_of_block R5.out)).trans R5.out); have B6 := Aside0.mk (below_lower B5.out W6.out B5.out.size); clear hh ho)
            | ((with_reducible refine gate_dst (N := 30) rfl ?_); refine load_row_event rfl 25 (.tmp 2) rfl w.heap.size rfl 25 (arr (y22 yi.p0 yi.p1 yi.p2 yi.cn)) _ Z6.out hu rfl hi ?_)
            | ((with_reducible refine gate_store (t := 25) (p := 4) rfl ?_); refine store_row_event rfl rfl 25 (.tmp 4) (.tmp 30) rfl (w.heap.size + 1) (arr (y22 yi.p0 yi.p1 yi.p2 yi.cn)) rfl rfl 25 _ R6.out hi rfl (by kernel_rfl) ?_; intro wz hh ho; have HEND := Aside0.mk hh; have BEND := Aside0.mk (ho.below B6.out (show w.heap.size ≤ w.heap.size + 1 by omega)); clear hh ho))
          refine bodyPost_ret (v := .tuple #[.agg (arr (y22 yi.p0 yi.p1 yi.p2 yi.cn)), .int .i64 (i : Int), .bool true]) ?_ rfl ?_
          · exact results_list (rs := [.cell 4 25, .tmp 5, .tmp 6]) rfl (by simp) (.cell (w.heap.size + 1) 25 (arr (y22 yi.p0 yi.p1 yi.p2 yi.cn)) (0, 0) _ rfl HEND.out hu rfl (by kernel_rfl) (.tmp (.tmp .nil)))
          · exact ⟨by first | (rw [HRE.out]; done) | (rw [HRE.out]; rfl), BEND.out⟩
        | some y2 =>
          have HRE := Aside0.mk (runA_some HRI.out HI.out HO.out)
          have HVN := Aside0.mk (HV.out _ _ _ HVI.out HO.out)
          go_wp2_with (first
            | ((with_reducible refine gate_store (t := 49) (p := 8) rfl ?_); refine store_row_event rfl rfl 49 (.tmp 8) (.tmp 21) rfl wq.heap.size #[.int .i64 (rd_T49 l (i : Int)).f0, .int .i64 (rd_T49 l (i : Int)).f1, .int .i64 (rd_T49 l (i : Int)).f2] rfl rfl 49 _ (blk_new wq _) hi49 rfl (by kernel_rfl) ?_; intro wz hh ho; obtain ⟨w4, e4⟩ : ∃ w4, w4 = wz := ⟨_, rfl⟩; have A4 := Aside0.mk hh; have W4 := Aside0.mk (show Below wq.heap.size wq wz from ho.below (below_alloc (Below.refl _ _) _) (Nat.le_refl _)); have Z4 := Aside0.mk ((W4.out.block _ (lt_of_block ZI.out)).trans ZI.out); have R4 := Aside0.mk ((W4.out.block _ (lt_of_block RI.out)).trans RI.out); have B4 := Aside0.mk (below_lower BI.out W4.out BI.out.size); clear hh ho)
            | ((with_reducible refine gate_dst (N := 23) rfl ?_); refine load_row_event rfl 25 (.tmp 2) rfl w.heap.size rfl 25 (arr (y22 yi.p0 yi.p1 yi.p2 yi.cn)) _ Z4.out hu rfl hi ?_)
            | ((with_reducible refine gate_dst (N := 24) rfl ?_); refine load_row_event rfl 49 (.tmp 8) rfl wq.heap.size rfl 49 #[.int .i64 (rd_T49 l (i : Int)).f0, .int .i64 (rd_T49 l (i : Int)).f1, .int .i64 (rd_T49 l (i : Int)).f2] _ A4.out hu49 rfl hi49 ?_)
            | (go_at_call 26; (refine (HSTP.out _).mono ?_); rintro e w5 ⟨rfl, hb⟩; have Z5 := Aside0.mk ((hb.block _ (lt_of_block Z4.out)).trans Z4.out); have R5 := Aside0.mk ((hb.block _ (lt_of_block R4.out)).trans R4.out); have B5 := Aside0.mk (below_step B4.out hb); clear hb)
            | ((with_reducible refine gate_store (t := 25) (p := 9) rfl ?_); refine store_row_event rfl rfl 25 (.tmp 9) (.tmp 26) rfl w5.heap.size (arr (y22 y2.p0 y2.p1 y2.p2 y2.cn)) rfl rfl 25 _ (blk_new w5 _) hi (by rfl) (by kernel_rfl) ?_; intro wz hh ho; obtain ⟨w6, e6⟩ : ∃ w6, w6 = wz := ⟨_, rfl⟩; have X6 := Aside0.mk hh; have W6 := Aside0.mk (show Below w5.heap.size w5 wz from ho.below (below_alloc (Below.refl _ _) _) (Nat.le_refl _)); have Z6 := Aside0.mk ((W6.out.block _ (lt_of_block Z5.out)).trans Z5.out); have R6 := Aside0.mk ((W6.out.block _ (lt_of_block R5.out)).trans R5.out); have B6 := Aside0.mk (below_lower B5.out W6.out B5.out.size); clear hh ho)
            | ((with_reducible refine gate_dst (N := 32) rfl ?_); refine load_row_event rfl 25 (.tmp 9) rfl w5.heap.size rfl 25 (arr (y22 y2.p0 y2.p1 y2.p2 y2.cn)) _ X6.out hu rfl hi ?_)
            | ((with_reducible refine gate_store (t := 25) (p := 2) rfl ?_); refine store_row_event rfl rfl 25 (.tmp 2) (.tmp 32) rfl w.heap.size (arr (y22 y2.p0 y2.p1 y2.p2 y2.cn)) rfl rfl 25 _ Z6.out hi (by rfl) (by kernel_rfl) ?_; intro wz hh ho; obtain ⟨w8, e8⟩ : ∃ w8, w8 = wz := ⟨_, rfl⟩; have X8 := Aside0.mk hh; have HO8 := Aside0.mk ho; clear hh ho))
          subst e8
          go_roundg k1
          case measure => omega
          case rel =>
            exact ⟨i + 1, y2, by first | rw [E1.out] | simp, ⟨by have := HK.out; omega⟩, HVN, HRE, X8, ⟨HO8.out.blk (by omega) R6.out⟩, ⟨HO8.out.below B6.out (Nat.le_refl _)⟩⟩
      · have c1 : ¬ (i : Int) < (l.length : Int) := by omega
        have d1 : decide ((i : Int) < (l.length : Int)) = false := decide_eq_false c1
        have HRE := Aside0.mk (runA_end HRI.out hi2)
        have HII := Aside0.mk (show i = l.length by have := HK.out; omega)
        go_wp2_with (first
          | ((with_reducible refine gate_dst (N := 34) rfl ?_); refine load_row_event rfl 25 (.tmp 2) rfl w.heap.size rfl 25 (arr (y22 yi.p0 yi.p1 yi.p2 yi.cn)) _ ZI.out hu rfl hi ?_)
          | ((with_reducible refine gate_store (t := 25) (p := 4) rfl ?_); refine store_row_event rfl rfl 25 (.tmp 4) (.tmp 34) rfl (w.heap.size + 1) (arr (y22 yi.p0 yi.p1 yi.p2 yi.cn)) rfl rfl 25 _ RI.out hi rfl (by kernel_rfl) ?_; intro wz hh ho; have HEND := Aside0.mk hh; have BEND := Aside0.mk (ho.below BI.out (show w.heap.size ≤ w.heap.size + 1 by omega)); clear hh ho))
        refine bodyPost_ret (v := .tuple #[.agg (arr (y22 yi.p0 yi.p1 yi.p2 yi.cn)), .int .i64 (l.length : Int), .bool true]) ?_ rfl ?_
        · exact results_list (rs := [.cell 4 25, .tmp 5, .tmp 6]) rfl (by simp) (.cell (w.heap.size + 1) 25 (arr (y22 yi.p0 yi.p1 yi.p2 yi.cn)) (0, 0) _ rfl HEND.out hu rfl (by kernel_rfl) (.tmp (.tmp .nil)))
        · exact ⟨by first | (rw [HRE.out, HII.out]; done) | (rw [HRE.out, HII.out]; rfl), BEND.out⟩

end Go.Proofs.Ythokeoocdkaffaa.Xl
