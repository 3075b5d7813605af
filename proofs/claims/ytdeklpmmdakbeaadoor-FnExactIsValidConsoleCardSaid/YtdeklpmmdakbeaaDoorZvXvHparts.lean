/- The parts of a yard, and whether it is valid: the program. -/
import Derived.Test.YtdeklpmmdakbeaaDoorZvXv0
import Derived.Test.YtdeklpmmdakbeaaDoorZvXv7
import Derived.Test.YtdeklpmmdakbeaaDoorZvXvHconcat
import Derived.Test.YtdeklpmmdakbeaaDoorZvXvHgood
import Derived.Test.YtdeklpmmdakbeaaDoorZvXvHpart
import Derived.OneCell
import Derived.Lib.SliceRun
import Derived.Shelf.Abstract
import Derived.Deep.RegionHeld3
import Derived.Outline
import Derived.BigQuiet
import Derived.Deep.QuietTactic
import Derived.RegionTactic
import Derived.BigRegion
namespace Go.Proofs.YtdeklpmmdakbeaaDoor.Xv
open Go.RowKit Go.Proofs.YtdeklpmmdakbeaaDoorW.PrintWords Go.Proofs.YtdeklpmmdakbeaaDoorW.PrintLast Go.Proofs.YtdeklpmmdakbeaaDoorW.PrintMore
attribute [local go_sem] max2_int min2_int max_two min_two max_three min_three max_four min_four
set_option linter.unusedVariables false
set_option linter.unusedSimpArgs false
def pick3 {α : Type} (a b c : α) : Nat → α
  | 0 => a
  | 1 => b
  | _ => c
theorem below_row {B g : Nat} {w0 W : World} (h : Below B w0 W) (hg : B ≤ g) (cs : Array Value) : Below B w0 (W.setRow g cs) := Only.below (W := W) (g := g) ⟨rfl, rfl, rfl, size_setRow W g cs, fun k hk => setRow_other W g k cs hk⟩ h hg
/-- A row of one's own is read in every world that has its blocks. -/
theorem C_of_same {w W : World} {base c : Nat} {A : Option Addr} {l : List Int} {ok : Nat → Prop} (h : Kd.R (Kd.int .i64) 3 w base ok (.slice A l.length c) l) (hW : ∀ k, base ≤ k → k < w.heap.size → W.heap[k]? = w.heap[k]?) : Kd.C (Kd.int .i64) W A l.length l :=
  (Kd.R_reads' (Kd.R_move (Kd.R_bound h) (fun k hk => hW k hk.2.1 hk.2.2.1))).2.2
/-- What the program tells of a yard. -/
def partsF (k : Nat) (p0 p1 p2 : Nat → Int) (cn : Int) : Option Bool := (impl_isOrder.f k (allY p0 p1 p2)).bind fun t => some (zr p0 && zr p1 && zr p2 && t && decide (0 ≤ cn) && decide (cn ≤ 1000))
set_option maxHeartbeats 16000000 in
set_option maxRecDepth 100000 in
theorem partsOf_rows (k : Nat) (p0 p1 p2 : Nat → Int) (cn : Int) (r : Bool) (w : World) (h : partsF k p0 p1 p2 cn = some r) :
    Calls Tryd.prog 22 #[.agg (arr (y22 p0 p1 p2 cn))] w fun e w' => ∃ (A0 : Option Addr) (c0 : Nat) (A1 : Option Addr) (c1 : Nat) (A2 : Option Addr) (c2 : Nat) (s1 s2 : Nat), e = .returned (.tuple #[.agg #[.slice A0 (tw p0).length c0, .slice A1 (tw p1).length c1, .slice A2 (tw p2).length c2], .bool r]) ∧ s1 ≤ s2 ∧ Kd.R (Kd.int .i64) 3 w' w.heap.size (fun k_ => k_ < s1) (.slice A0 (tw p0).length c0) (tw p0) ∧ Kd.R (Kd.int .i64) 3 w' w.heap.size (fun k_ => s1 ≤ k_ ∧ k_ < s2) (.slice A1 (tw p1).length c1) (tw p1) ∧ Kd.R (Kd.int .i64) 3 w' w.heap.size (fun k_ => s2 ≤ k_) (.slice A2 (tw p2).length c2) (tw p2) ∧ Below w.heap.size w w' := by
  have hu62 := Tryd.underlying53
  have hi62 : (Tryd.prog.info? 53).map (·.size) = some 3 := by kernel_rfl
  obtain ⟨t, ht, h⟩ := Option.bind_eq_some_iff.1 h
  have HRR := Aside0.mk (Option.some.inj h)
  clear h
  obtain ⟨al, hal⟩ : ∃ al, al = allY p0 p1 p2 := ⟨_, rfl⟩
  rw [← hal] at ht
  have HT := Aside0.mk ht
  have z1 := blk_new w (.cells (arr (y22 p0 p1 p2 cn)) 31)
  have z2 := blk_new (w.alloc (.cells (arr (y22 p0 p1 p2 cn)) 31)) (.cells #[.slice none 0 0, .slice none 0 0, .slice none 0 0] 53)
  rw [World.size_alloc] at z2
  have Z1 := Aside0.mk (blk_alloc z1 (.cells #[.slice none 0 0, .slice none 0 0, .slice none 0 0] 53))
  have Y1 := Aside0.mk z2
  have HB1 := Aside0.mk (below_alloc (below_alloc (Below.refl w.heap.size w) (.cells (arr (y22 p0 p1 p2 cn)) 31)) (.cells #[.slice none 0 0, .slice none 0 0, .slice none 0 0] 53))
  have S1 := Aside0.mk (rfl : (1 : Nat) = 1)
  have S2 := Aside0.mk (rfl : (1 : Nat) = 1)
  clear z1 z2 ht
  go_enter Tryd.func22, Tryd.ntmps22
  go_upto_region 4 with (first
      | ((with_reducible refine gate_dst (N := 13) rfl ?_); refine Kd.event_run rfl (execLoad (addr := .pointer (some ⟨w.heap.size, 0, none⟩)) (v := .agg (arr (m7 p0))) rfl rfl (load7 (by have h_ := Z1.out; rw [y22_0] at h_; exact h_) (by rfl))) ?_)
      | (go_at_call 28; clear S1; (refine (partOf_walk p0 _).mono ?_); rintro e w6 ⟨v6, rfl, ho, hb⟩; obtain ⟨A0, c0, e6⟩ := Kd.R_slice ho; subst e6; have HC0 := Aside0.mk (Kd.R_reads' ho).2.2; have U0 := Aside0.mk (Kd.R_lower (base' := w.heap.size) (Kd.R_mono (ok' := fun k_ => w.heap.size + 2 ≤ k_ ∧ k_ < w6.heap.size) (Kd.R_bound ho) (fun k_ hk => ⟨by have h1_ := hk.2.1; simp only [World.size_alloc] at h1_; omega, hk.2.2.1⟩)) HB1.out.size); have HL0 := Aside0.mk (Kd.R_reads' ho).2.1; have HB6 := Aside0.mk (below_step HB1.out hb); have Z6 := Aside0.mk ((hb.block _ (lt_of_block Z1.out)).trans Z1.out); have Y6 := Aside0.mk ((hb.block _ (lt_of_block Y1.out)).trans Y1.out); clear ho hb)
      | ((with_reducible refine gate_dst (N := 19) rfl ?_); refine Kd.event_run rfl (execLoad (addr := .pointer (some ⟨w.heap.size, 7, none⟩)) (v := .agg (arr (m7 p1))) rfl rfl (load7 (by have h_ := Z6.out; rw [y22_1] at h_; exact h_) (by rfl))) ?_)
      | (go_at_call 28; clear S2; (refine (partOf_walk p1 _).mono ?_); rintro e w7 ⟨v7, rfl, ho, hb⟩; obtain ⟨A1, c1, e7⟩ := Kd.R_slice ho; subst e7; have HS12 := Aside0.mk hb.size; have HC1 := Aside0.mk (Kd.R_reads' ho).2.2; have U1 := Aside0.mk (Kd.R_lower (base' := w.heap.size) (Kd.R_mono (ok' := fun k_ => w6.heap.size ≤ k_ ∧ k_ < w7.heap.size) (Kd.R_bound ho) (fun k_ hk => ⟨hk.2.1, hk.2.2.1⟩)) HB6.out.size); have U0b := Aside0.mk (Kd.R_below U0.out hb); have HL1 := Aside0.mk (Kd.R_reads' ho).2.1; have HB7 := Aside0.mk (below_step HB6.out hb); have Z7 := Aside0.mk ((hb.block _ (lt_of_block Z6.out)).trans Z6.out); have Y7 := Aside0.mk ((hb.block _ (lt_of_block Y6.out)).trans Y6.out); have HC0b := Aside0.mk (Kd.C_below HC0.out hb); clear ho hb)
      | ((with_reducible refine gate_dst (N := 25) rfl ?_); refine Kd.event_run rfl (execLoad (addr := .pointer (some ⟨w.heap.size, 14, none⟩)) (v := .agg (arr (m7 p2))) rfl rfl (load7 (by have h_ := Z7.out; rw [y22_2] at h_; exact h_) (by rfl))) ?_)
      | (go_at_call 28; (refine (partOf_walk p2 _).mono ?_); rintro e w8 ⟨v8, rfl, ho, hb⟩; obtain ⟨A2, c2, e8⟩ := Kd.R_slice ho; subst e8; have HC2 := Aside0.mk (Kd.R_reads' ho).2.2; have U2 := Aside0.mk (Kd.R_lower (base' := w.heap.size) (Kd.R_mono (ok' := fun k_ => w7.heap.size ≤ k_ ∧ k_ < w8.heap.size) (Kd.R_bound ho) (fun k_ hk => ⟨hk.2.1, hk.2.2.1⟩)) HB7.out.size); have U1b := Aside0.mk (Kd.R_below U1.out hb); have U0c := Aside0.mk (Kd.R_below U0b.out hb); have HS67 := Aside0.mk (lt_of_block Y6.out); have HS7 := Aside0.mk (lt_of_block Y7.out); have HL2 := Aside0.mk (Kd.R_reads' ho).2.1; have HB8 := Aside0.mk (below_step HB7.out hb); have Z8 := Aside0.mk ((hb.block _ (lt_of_block Z7.out)).trans Z7.out); have Y8 := Aside0.mk ((hb.block _ (lt_of_block Y7.out)).trans Y7.out); have HC0c := Aside0.mk (Kd.C_below HC0b.out hb); have HC1c := Aside0.mk (Kd.C_below HC1.out hb); clear ho hb))
  obtain ⟨w9, hw9⟩ : ∃ w9, w9 = w8.alloc (.cells #[.slice A0 (tw p0).length c0, .slice A1 (tw p1).length c1, .slice A2 (tw p2).length c2] 42) := ⟨_, rfl⟩
  have hb9 : Below w8.heap.size w8 w9 := by rw [hw9]; exact below_alloc (Below.refl _ _) _
  have hcell9 : ∀ i, i < 3 → w9.cell? ((⟨w8.heap.size, 0, none⟩ : Addr).add i) = some (.slice (pick3 A0 A1 A2 i) (pick3 (tw p0) (tw p1) (tw p2) i).length (pick3 c0 c1 c2 i)) := by
    intro i hi
    have hz9 : w9.heap[w8.heap.size]? = some (.cells #[.slice A0 (tw p0).length c0, .slice A1 (tw p1).length c1, .slice A2 (tw p2).length c2] 42 (0, 0)) := by rw [hw9]; exact blk_new w8 _
    have hadd : (⟨w8.heap.size, 0, none⟩ : Addr).add i = ⟨w8.heap.size, 0 + i, none⟩ := add_at _ _ _
    rw [hadd, blk_cell hz9]
    have : i = 0 ∨ i = 1 ∨ i = 2 := by omega
    rcases this with rfl | rfl | rfl <;> rfl
  have hC9 : ∀ i, i < 3 → Kd.C (Kd.int .i64) w9 (pick3 A0 A1 A2 i) (pick3 (tw p0) (tw p1) (tw p2) i).length (pick3 (tw p0) (tw p1) (tw p2) i) := by
    intro i hi
    have : i = 0 ∨ i = 1 ∨ i = 2 := by omega
    rcases this with rfl | rfl | rfl
    · exact Kd.C_below HC0c.out hb9
    · exact Kd.C_below HC1c.out hb9
    · exact Kd.C_below HC2.out hb9
  have hcat : catU (pick3 (tw p0) (tw p1) (tw p2)) 3 = allY p0 p1 p2 := by simp [catU, pick3, allY]
  have HCON := Aside0.mk (Concat_three ⟨w8.heap.size, 0, none⟩ (pick3 A0 A1 A2) (pick3 c0 c1 c2) (pick3 (tw p0) (tw p1) (tw p2)) (by rw [hcat]; have := tw_len p0; have := tw_len p1; have := tw_len p2; simp only [allY, List.length_append]; omega) w9 hcell9 hC9)
  rw [hcat, ← hal] at HCON
  have HB9 := Aside0.mk (below_step HB8.out hb9)
  have Z9 := Aside0.mk ((hb9.block _ (lt_of_block Z8.out)).trans Z8.out)
  have Y9 := Aside0.mk ((hb9.block _ (lt_of_block Y8.out)).trans Y8.out)
  have V0 := Aside0.mk (Kd.R_below U0c.out hb9)
  have V1 := Aside0.mk (Kd.R_below U1b.out hb9)
  have V2 := Aside0.mk (Kd.R_below U2.out hb9)
  clear hcell9 hC9 hcat hb9 U0 U0b U0c U1 U1b U2

  go_upto_region 5 with (first
      | (go_at_call 29; rw [← hw9]; (refine HCON.out.mono ?_); rintro e w10 ⟨v10, rfl, ho, hb⟩; have HO10p := Aside0.mk ho; have HB10 := Aside0.mk hb; clear ho hb))
  obtain ⟨A8, c8, e10⟩ := Kd.R_slice HO10p.out
  subst e10
  have HO10 := HO10p
  have HL10 := Aside0.mk (Kd.R_reads' HO10.out).2.1
  have Z10 := Aside0.mk ((HB10.out.block _ (lt_of_block Z9.out)).trans Z9.out)
  have Y10 := Aside0.mk ((HB10.out.block _ (lt_of_block Y9.out)).trans Y9.out)
  have HBW := Aside0.mk (below_step HB9.out HB10.out)
  have HSZ := Aside0.mk (lt_of_block Y9.out)
  have T0 := Aside0.mk (Kd.R_below V0.out HB10.out)
  have T1 := Aside0.mk (Kd.R_below V1.out HB10.out)
  have T2 := Aside0.mk (Kd.R_below V2.out HB10.out)
  clear V0 V1 V2
  clear HO10p Z9 Y9 Z8 Y8 Z7 Y7 Z6 Y6 Z1 Y1 HB1 HB6 HB7 HB8 HB9 HB10 HC0 HC0b HC0c HC1 HC1c HC2 HCON hw9 hal
  cases z0 : zr p0 with
  | false =>
    obtain rfl : r = false := by rw [← HRR.out, z0]; rfl
    refine wp_region_held_drew (S := (fun W => W.heap[w.heap.size]? = some (.cells (arr (y22 p0 p1 p2 cn)) 31 (0, 0)) ∧ (∃ old : Array Value, W.heap[w.heap.size + 1]? = some (.cells old 53 (0, 0)) ∧ old.size = 3) ∧ Below w.heap.size w W ∧ w10.heap.size ≤ W.heap.size ∧ (∀ k_, w.heap.size + 2 ≤ k_ → k_ < w10.heap.size → W.heap[k_]? = w10.heap[k_]?))) (by kernel_rfl) ⟨Z10.out, ⟨_, Y10.out, rfl⟩, below_drew HBW.out, Nat.le_refl _, fun _ _ _ => rfl⟩ (fun hHeld => ?_)
    refine wpAnyH_take (i := 0) (oi := ?ois00) (v := ?vs00) ?his00 (by kernel_rfl) (by kernel_rfl) (by kernel_rfl) ?hQs00 ?hys00 hHeld ?hs00
    case his00 => (simp only [gAx, gSx, gZx]; rfl)
    case hQs00 => exact fun _ _ _ h => h
    case hys00 => exact Or.inl ⟨by rfl, by intro w_ hSw; (try dsimp only at hSw); first | (go_simp; done) | (go_simp; with_reducible rfl)⟩
    try simp only [Act.put, sAx, sZx, sSx]
    refine wpAnyH_take (i := 1) (oi := ?ois01) (v := ?vs01) ?his01 (by kernel_rfl) (by kernel_rfl) (by kernel_rfl) ?hQs01 ?hys01 hHeld ?hs01
    case his01 => (simp only [gAx, gSx, gZx]; rfl)
    case hQs01 => exact fun _ _ _ h => h
    case hys01 => exact Or.inl ⟨by rfl, by intro w_ hSw; (try dsimp only at hSw); first | (go_simp; done) | (go_simp; with_reducible rfl)⟩
    try simp only [Act.put, sAx, sZx, sSx]
    refine wpAnyH_take (i := 2) (oi := ?ois02) (v := ?vs02) ?his02 (by kernel_rfl) (by kernel_rfl) (by kernel_rfl) ?hQs02 ?hys02 hHeld ?hs02
    case his02 => (simp only [gAx, gSx, gZx]; rfl)
    case hQs02 => exact fun _ _ _ h => h
    case hys02 => exact Or.inl ⟨by rfl, by intro w_ hSw; (try dsimp only at hSw); first | (go_simp; done) | (go_simp; with_reducible rfl)⟩
    try simp only [Act.put, sAx, sZx, sSx]
    refine wpAnyH_take (i := 3) (oi := ?ois03) (v := ?vs03) ?his03 (by kernel_rfl) (by kernel_rfl) (by kernel_rfl) ?hQs03 ?hys03 hHeld ?hs03
    case his03 => (simp only [gAx, gSx, gZx]; rfl)
    case hQs03 => exact fun _ _ _ h => h
    case hys03 => exact Or.inl ⟨by rfl, by intro w_ hSw; (try dsimp only at hSw); first | (go_simp; done) | (go_simp; with_reducible rfl)⟩
    try simp only [Act.put, sAx, sZx, sSx]
    refine wpAnyH_take (i := 4) (oi := ?ois04) (v := ?vs04) ?his04 (by kernel_rfl) (by kernel_rfl) (by kernel_rfl) ?hQs04 ?hys04 hHeld ?hs04
    case his04 => (simp only [gAx, gSx, gZx]; rfl)
    case hQs04 => exact fun _ _ _ h => h
    case hys04 => exact Or.inl ⟨by rfl, by intro w_ hSw; (try dsimp only at hSw); first | (go_simp; done) | (go_simp; with_reducible rfl)⟩
    try simp only [Act.put, sAx, sZx, sSx]
    refine wpAnyH_take (i := 5) (oi := ?ois05) (v := ?vs05) ?his05 (by kernel_rfl) (by kernel_rfl) (by kernel_rfl) ?hQs05 ?hys05 hHeld ?hs05
    case his05 => (simp only [gAx, gSx, gZx]; rfl)
    case hQs05 => exact fun _ _ _ h => h
    case hys05 => exact Or.inl ⟨by rfl, by intro w_ hSw; (try dsimp only at hSw); first | (go_simp; done) | (go_simp; with_reducible rfl)⟩
    try simp only [Act.put, sAx, sZx, sSx]
    refine wpAnyH_take (i := 6) (oi := ?ois06) (v := undef) ?his06 (by kernel_rfl) (by kernel_rfl) (by kernel_rfl) ?hQs06 ?hys06 hHeld ?hs06
    case his06 => (simp only [gAx, gSx, gZx]; rfl)
    case hQs06 => exact fun _ _ _ h => h
    case hys06 => exact Or.inr ⟨by rfl, rfl⟩
    try simp only [Act.put, sAx, sZx, sSx]
    refine wpAnyH_take (i := 7) (oi := ?ois07) (v := ?vs07) ?his07 (by kernel_rfl) (by kernel_rfl) (by kernel_rfl) ?hQs07 ?hys07 hHeld ?hs07
    case his07 => (simp only [gAx, gSx, gZx]; rfl)
    case hQs07 => exact fun _ _ _ h => h
    case hys07 => exact Or.inl ⟨by rfl, by intro w_ hSw; (try dsimp only at hSw); first | (go_simp; done) | (go_simp; with_reducible rfl)⟩
    try simp only [Act.put, sAx, sZx, sSx]
    refine wpAnyH_take (i := 8) (oi := ?ois08) (v := ?vs08) ?his08 (by kernel_rfl) (by kernel_rfl) (by kernel_rfl) ?hQs08 ?hys08 hHeld ?hs08
    case his08 => (simp only [gAx, gSx, gZx]; rfl)
    case hQs08 => exact fun _ _ _ h => h
    case hys08 => exact Or.inl ⟨by rfl, by intro w_ hSw; (try dsimp only at hSw); first | (go_simp; done) | (go_simp; with_reducible rfl)⟩
    try simp only [Act.put, sAx, sZx, sSx]
    refine wpAnyH_take (i := 9) (oi := ?ois09) (v := undef) ?his09 (by kernel_rfl) (by kernel_rfl) (by kernel_rfl) ?hQs09 ?hys09 hHeld ?hs09
    case his09 => (simp only [gAx, gSx, gZx]; rfl)
    case hQs09 => exact fun _ _ _ h => h
    case hys09 => exact Or.inr ⟨by rfl, rfl⟩
    try simp only [Act.put, sAx, sZx, sSx]
    refine wpAnyH_take (i := 10) (oi := ?ois010) (v := ?vs010) ?his010 (by kernel_rfl) (by kernel_rfl) (by kernel_rfl) ?hQs010 ?hys010 hHeld ?hs010
    case his010 => (simp only [gAx, gSx, gZx]; rfl)
    case hQs010 => exact fun _ _ _ h => h
    case hys010 => exact Or.inl ⟨by rfl, by intro w_ hSw; (try dsimp only at hSw); first | (go_simp; done) | (go_simp; with_reducible rfl)⟩
    try simp only [Act.put, sAx, sZx, sSx]
    refine wpAnyH_take (i := 11) (oi := ?ois011) (v := ?vs011) ?his011 (by kernel_rfl) (by kernel_rfl) (by kernel_rfl) ?hQs011 ?hys011 hHeld ?hs011
    case his011 => (simp only [gAx, gSx, gZx]; rfl)
    case hQs011 => exact fun _ _ _ h => h
    case hys011 => exact Or.inl ⟨by rfl, by intro w_ hSw; (try dsimp only at hSw); first | (go_simp; done) | (go_simp; with_reducible rfl)⟩
    try simp only [Act.put, sAx, sZx, sSx]
    refine wpAnyH_take (i := 12) (oi := ?ois012) (v := undef) ?his012 (by kernel_rfl) (by kernel_rfl) (by kernel_rfl) ?hQs012 ?hys012 hHeld ?hs012
    case his012 => (simp only [gAx, gSx, gZx]; rfl)
    case hQs012 => exact fun _ _ _ h => h
    case hys012 => exact Or.inr ⟨by rfl, rfl⟩
    try simp only [Act.put, sAx, sZx, sSx]
    refine wpAnyH_take (i := 13) (oi := ?ois013) (v := undef) ?his013 (by kernel_rfl) (by kernel_rfl) (by kernel_rfl) ?hQs013 ?hys013 hHeld ?hs013
    case his013 => (simp only [gAx, gSx, gZx]; rfl)
    case hQs013 => exact fun _ _ _ h => h
    case hys013 => exact Or.inr ⟨by rfl, rfl⟩
    try simp only [Act.put, sAx, sZx, sSx]
    refine wpAnyH_take (i := 14) (oi := ?ois014) (v := ?vs014) ?his014 (by kernel_rfl) (by kernel_rfl) (by kernel_rfl) ?hQs014 ?hys014 hHeld ?hs014
    case his014 => (simp only [gAx, gSx, gZx]; rfl)
    case hQs014 => exact fun _ _ _ h => h
    case hys014 => exact Or.inl ⟨by rfl, by intro w_ hSw; (try dsimp only at hSw); first | (go_simp; done) | (go_simp; with_reducible rfl)⟩
    try simp only [Act.put, sAx, sZx, sSx]
    refine wpAnyH_take (i := 15) (oi := ?ois015) (v := ?vs015) ?his015 (by kernel_rfl) (by kernel_rfl) (by kernel_rfl) ?hQs015 ?hys015 hHeld ?hs015
    case his015 => (simp only [gAx, gSx, gZx]; rfl)
    case hQs015 => exact fun _ _ _ h => h
    case hys015 => exact Or.inl ⟨by rfl, by intro w_ hSw; (try dsimp only at hSw); first | (go_simp; done) | (go_simp; with_reducible rfl)⟩
    try simp only [Act.put, sAx, sZx, sSx]
    refine wpAnyH_take (i := 16) (oi := ?ois016) (v := undef) ?his016 (by kernel_rfl) (by kernel_rfl) (by kernel_rfl) ?hQs016 ?hys016 hHeld ?hs016
    case his016 => (simp only [gAx, gSx, gZx]; rfl)
    case hQs016 => exact fun _ _ _ h => h
    case hys016 => exact Or.inr ⟨by rfl, rfl⟩
    try simp only [Act.put, sAx, sZx, sSx]
    refine wpAnyH_take (i := 17) (oi := ?ois017) (v := undef) ?his017 (by kernel_rfl) (by kernel_rfl) (by kernel_rfl) ?hQs017 ?hys017 hHeld ?hs017
    case his017 => (simp only [gAx, gSx, gZx]; rfl)
    case hQs017 => exact fun _ _ _ h => h
    case hys017 => exact Or.inr ⟨by rfl, rfl⟩
    try simp only [Act.put, sAx, sZx, sSx]
    refine wpAnyH_take (i := 18) (oi := ?ois018) (v := undef) ?his018 (by kernel_rfl) (by kernel_rfl) (by kernel_rfl) ?hQs018 ?hys018 hHeld ?hs018
    case his018 => (simp only [gAx, gSx, gZx]; rfl)
    case hQs018 => exact fun _ _ _ h => h
    case hys018 => exact Or.inr ⟨by rfl, rfl⟩
    try simp only [Act.put, sAx, sZx, sSx]
    refine wpAnyH_take (i := 19) (oi := ?ois019) (v := ?vs019) ?his019 (by kernel_rfl) (by kernel_rfl) (by kernel_rfl) ?hQs019 ?hys019 hHeld ?hs019
    case his019 => (simp only [gAx, gSx, gZx]; rfl)
    case hQs019 => exact fun _ _ _ h => h
    case hys019 => exact Or.inl ⟨by rfl, by intro w_ hSw; (try dsimp only at hSw); first | (go_simp; done) | (go_simp; with_reducible rfl)⟩
    try simp only [Act.put, sAx, sZx, sSx]
    refine wpAnyH_take (i := 20) (oi := ?ois020) (v := ?vs020) ?his020 (by kernel_rfl) (by kernel_rfl) (by kernel_rfl) ?hQs020 ?hys020 hHeld ?hs020
    case his020 => (simp only [gAx, gSx, gZx]; rfl)
    case hQs020 => exact fun _ _ _ h => h
    case hys020 => exact Or.inl ⟨by rfl, by intro w_ hSw; (try dsimp only at hSw); first | (go_simp; done) | (go_simp; with_reducible rfl)⟩
    try simp only [Act.put, sAx, sZx, sSx]
    refine wpAnyH_take (i := 21) (oi := ?ois021) (v := undef) ?his021 (by kernel_rfl) (by kernel_rfl) (by kernel_rfl) ?hQs021 ?hys021 hHeld ?hs021
    case his021 => (simp only [gAx, gSx, gZx]; rfl)
    case hQs021 => exact fun _ _ _ h => h
    case hys021 => exact Or.inr ⟨by rfl, rfl⟩
    try simp only [Act.put, sAx, sZx, sSx]
    refine wpAnyH_take (i := 22) (oi := ?ois022) (v := undef) ?his022 (by kernel_rfl) (by kernel_rfl) (by kernel_rfl) ?hQs022 ?hys022 hHeld ?hs022
    case his022 => (simp only [gAx, gSx, gZx]; rfl)
    case hQs022 => exact fun _ _ _ h => h
    case hys022 => exact Or.inr ⟨by rfl, rfl⟩
    try simp only [Act.put, sAx, sZx, sSx]
    refine wpAnyH_take (i := 23) (oi := ?ois023) (v := undef) ?his023 (by kernel_rfl) (by kernel_rfl) (by kernel_rfl) ?hQs023 ?hys023 hHeld ?hs023
    case his023 => (simp only [gAx, gSx, gZx]; rfl)
    case hQs023 => exact fun _ _ _ h => h
    case hys023 => exact Or.inr ⟨by rfl, rfl⟩
    try simp only [Act.put, sAx, sZx, sSx]
    refine wpAnyH_take (i := 24) (oi := ?ois024) (v := ?vs024) ?his024 (by kernel_rfl) (by kernel_rfl) (by kernel_rfl) ?hQs024 ?hys024 hHeld ?hs024
    case his024 => (simp only [gAx, gSx, gZx]; rfl)
    case hQs024 => exact fun _ _ _ h => h
    case hys024 => exact Or.inl ⟨by rfl, by intro w_ hSw; (try dsimp only at hSw); first | (go_simp; done) | (go_simp; with_reducible rfl)⟩
    try simp only [Act.put, sAx, sZx, sSx]
    refine wpAnyH_ready (rs := [25]) (by kernel_rfl) (by simp) ?_
    refine AllReadyH.cons (o := ?ocs025) ?hcs025 (fun K hK => ?hks025) AllReadyH.nil
    case hcs025 => (simp only [gAx, gSx, gZx]; rfl)
    obtain ⟨old, hold, hsz⟩ := hHeld.2.1
    rw [if_pos (by rfl)]
    refine wp_store_row 53 (.tmp 2) (.tmp 37) rfl (w.heap.size + 1) #[.slice A0 (tw p0).length c0, .slice A1 (tw p1).length c1, .slice A2 (tw p2).length c2] rfl rfl 53 old hold hi62 hsz (by kernel_rfl) ?_
    refine hK.out _ _ ⟨(setRow_other _ _ _ _ (by omega)).trans hHeld.1, ⟨#[.slice A0 (tw p0).length c0, .slice A1 (tw p1).length c1, .slice A2 (tw p2).length c2], setRow_heap _ _ _ _ _ _ hold, rfl⟩, below_row hHeld.2.2.1 (by omega) _, by rw [size_setRow]; exact hHeld.2.2.2.1, fun k_ h1_ h2_ => (setRow_other _ _ _ _ (by omega)).trans (hHeld.2.2.2.2 k_ h1_ h2_)⟩ (fun hHeld2 => ?_)
    have HEND := Aside0.mk (setRow_heap _ _ _ #[.slice A0 (tw p0).length c0, .slice A1 (tw p1).length c1, .slice A2 (tw p2).length c2] _ _ hold)
    have hbend := hHeld2.2.2.1
    clear hK K hold hsz
    replace hHeld := hHeld2
    try simp only [Act.put, sAx, sZx, sSx]
    refine wpAnyH_take (i := 26) (oi := ?ois026) (v := ?vs026) ?his026 (by kernel_rfl) (by kernel_rfl) (by kernel_rfl) ?hQs026 ?hys026 hHeld ?hs026
    case his026 => (simp only [gAx, gSx, gZx]; rfl)
    case hQs026 => exact fun _ _ _ h => h
    case hys026 => exact Or.inl ⟨by rfl, by intro w_ hSw; (try dsimp only at hSw); first | (go_simp; done) | (go_simp; with_reducible rfl)⟩
    try simp only [Act.put, sAx, sZx, sSx]
    refine wpAnyH_done (by kernel_rfl) ?_ _
    go_wp2
    refine bodyPost_ret (v := .tuple #[.agg #[.slice A0 (tw p0).length c0, .slice A1 (tw p1).length c1, .slice A2 (tw p2).length c2], .bool false]) ?_ rfl ?_
    · exact results_list (rs := [.cell 2 53, .tmp 3]) rfl (by simp) (.cell (w.heap.size + 1) 53 #[.slice A0 (tw p0).length c0, .slice A1 (tw p1).length c1, .slice A2 (tw p2).length c2] (0, 0) _ rfl HEND.out hu62 rfl (by kernel_rfl) (.tmp .nil))
    · exact ⟨A0, c0, A1, c1, A2, c2, w6.heap.size, w7.heap.size, rfl, HS12.out, Kd.R_mono (Kd.R_move (Kd.R_bound T0.out) (fun k_ hk => hHeld.2.2.2.2 k_ (by have h1_ := hk.1.1; have h2_ := HS67.out; have h3_ := HS7.out; omega) hk.2.2.1)) (fun k_ hk => (by have h1_ := hk.1; omega)), Kd.R_mono (Kd.R_move (Kd.R_bound T1.out) (fun k_ hk => hHeld.2.2.2.2 k_ (by have h1_ := hk.1.1; have h2_ := HS67.out; have h3_ := HS7.out; omega) hk.2.2.1)) (fun k_ hk => (by have h1_ := hk.1; omega)), Kd.R_mono (Kd.R_move (Kd.R_bound T2.out) (fun k_ hk => hHeld.2.2.2.2 k_ (by have h1_ := hk.1.1; have h2_ := HS67.out; have h3_ := HS7.out; omega) hk.2.2.1)) (fun k_ hk => (by have h1_ := hk.1; omega)), hbend⟩
  | true =>
    cases z1 : zr p1 with
    | false =>
      obtain rfl : r = false := by rw [← HRR.out, z0, z1]; rfl
      refine wp_region_held_drew (S := (fun W => W.heap[w.heap.size]? = some (.cells (arr (y22 p0 p1 p2 cn)) 31 (0, 0)) ∧ (∃ old : Array Value, W.heap[w.heap.size + 1]? = some (.cells old 53 (0, 0)) ∧ old.size = 3) ∧ Below w.heap.size w W ∧ w10.heap.size ≤ W.heap.size ∧ (∀ k_, w.heap.size + 2 ≤ k_ → k_ < w10.heap.size → W.heap[k_]? = w10.heap[k_]?))) (by kernel_rfl) ⟨Z10.out, ⟨_, Y10.out, rfl⟩, below_drew HBW.out, Nat.le_refl _, fun _ _ _ => rfl⟩ (fun hHeld => ?_)
      refine wpAnyH_take (i := 0) (oi := ?ois10) (v := ?vs10) ?his10 (by kernel_rfl) (by kernel_rfl) (by kernel_rfl) ?hQs10 ?hys10 hHeld ?hs10
      case his10 => (simp only [gAx, gSx, gZx]; rfl)
      case hQs10 => exact fun _ _ _ h => h
      case hys10 => exact Or.inl ⟨by rfl, by intro w_ hSw; (try dsimp only at hSw); first | (go_simp; done) | (go_simp; with_reducible rfl)⟩
      try simp only [Act.put, sAx, sZx, sSx]
      refine wpAnyH_take (i := 1) (oi := ?ois11) (v := ?vs11) ?his11 (by kernel_rfl) (by kernel_rfl) (by kernel_rfl) ?hQs11 ?hys11 hHeld ?hs11
      case his11 => (simp only [gAx, gSx, gZx]; rfl)
      case hQs11 => exact fun _ _ _ h => h
      case hys11 => exact Or.inl ⟨by rfl, by intro w_ hSw; (try dsimp only at hSw); first | (go_simp; done) | (go_simp; with_reducible rfl)⟩
      try simp only [Act.put, sAx, sZx, sSx]
      refine wpAnyH_take (i := 2) (oi := ?ois12) (v := ?vs12) ?his12 (by kernel_rfl) (by kernel_rfl) (by kernel_rfl) ?hQs12 ?hys12 hHeld ?hs12
      case his12 => (simp only [gAx, gSx, gZx]; rfl)
      case hQs12 => exact fun _ _ _ h => h
      case hys12 => exact Or.inl ⟨by rfl, by intro w_ hSw; (try dsimp only at hSw); first | (go_simp; done) | (go_simp; with_reducible rfl)⟩
      try simp only [Act.put, sAx, sZx, sSx]
      refine wpAnyH_take (i := 3) (oi := ?ois13) (v := ?vs13) ?his13 (by kernel_rfl) (by kernel_rfl) (by kernel_rfl) ?hQs13 ?hys13 hHeld ?hs13
      case his13 => (simp only [gAx, gSx, gZx]; rfl)
      case hQs13 => exact fun _ _ _ h => h
      case hys13 => exact Or.inl ⟨by rfl, by intro w_ hSw; (try dsimp only at hSw); first | (go_simp; done) | (go_simp; with_reducible rfl)⟩
      try simp only [Act.put, sAx, sZx, sSx]
      refine wpAnyH_take (i := 4) (oi := ?ois14) (v := ?vs14) ?his14 (by kernel_rfl) (by kernel_rfl) (by kernel_rfl) ?hQs14 ?hys14 hHeld ?hs14
      case his14 => (simp only [gAx, gSx, gZx]; rfl)
      case hQs14 => exact fun _ _ _ h => h
      case hys14 => exact Or.inl ⟨by rfl, by intro w_ hSw; (try dsimp only at hSw); first | (go_simp; done) | (go_simp; with_reducible rfl)⟩
      try simp only [Act.put, sAx, sZx, sSx]
      refine wpAnyH_take (i := 5) (oi := ?ois15) (v := ?vs15) ?his15 (by kernel_rfl) (by kernel_rfl) (by kernel_rfl) ?hQs15 ?hys15 hHeld ?hs15
      case his15 => (simp only [gAx, gSx, gZx]; rfl)
      case hQs15 => exact fun _ _ _ h => h
      case hys15 => exact Or.inl ⟨by rfl, by intro w_ hSw; (try dsimp only at hSw); first | (go_simp; done) | (go_simp; with_reducible rfl)⟩
      try simp only [Act.put, sAx, sZx, sSx]
      refine wpAnyH_take (i := 6) (oi := ?ois16) (v := ?vs16) ?his16 (by kernel_rfl) (by kernel_rfl) (by kernel_rfl) ?hQs16 ?hys16 hHeld ?hs16
      case his16 => (simp only [gAx, gSx, gZx]; rfl)
      case hQs16 => exact fun _ _ _ h => h
      case hys16 => exact Or.inl ⟨by rfl, by intro w_ hSw; (try dsimp only at hSw); first | (go_simp; done) | (go_simp; with_reducible rfl)⟩
      try simp only [Act.put, sAx, sZx, sSx]
      refine wpAnyH_take (i := 7) (oi := ?ois17) (v := ?vs17) ?his17 (by kernel_rfl) (by kernel_rfl) (by kernel_rfl) ?hQs17 ?hys17 hHeld ?hs17
      case his17 => (simp only [gAx, gSx, gZx]; rfl)
      case hQs17 => exact fun _ _ _ h => h
      case hys17 => exact Or.inl ⟨by rfl, by intro w_ hSw; (try dsimp only at hSw); first | (go_simp; done) | (go_simp; with_reducible rfl)⟩
      try simp only [Act.put, sAx, sZx, sSx]
      refine wpAnyH_take (i := 8) (oi := ?ois18) (v := ?vs18) ?his18 (by kernel_rfl) (by kernel_rfl) (by kernel_rfl) ?hQs18 ?hys18 hHeld ?hs18
      case his18 => (simp only [gAx, gSx, gZx]; rfl)
      case hQs18 => exact fun _ _ _ h => h
      case hys18 => exact Or.inl ⟨by rfl, by intro w_ hSw; (try dsimp only at hSw); first | (go_simp; done) | (go_simp; with_reducible rfl)⟩
      try simp only [Act.put, sAx, sZx, sSx]
      refine wpAnyH_take (i := 9) (oi := ?ois19) (v := undef) ?his19 (by kernel_rfl) (by kernel_rfl) (by kernel_rfl) ?hQs19 ?hys19 hHeld ?hs19
      case his19 => (simp only [gAx, gSx, gZx]; rfl)
      case hQs19 => exact fun _ _ _ h => h
      case hys19 => exact Or.inr ⟨by rfl, rfl⟩
      try simp only [Act.put, sAx, sZx, sSx]
      refine wpAnyH_take (i := 10) (oi := ?ois110) (v := ?vs110) ?his110 (by kernel_rfl) (by kernel_rfl) (by kernel_rfl) ?hQs110 ?hys110 hHeld ?hs110
      case his110 => (simp only [gAx, gSx, gZx]; rfl)
      case hQs110 => exact fun _ _ _ h => h
      case hys110 => exact Or.inl ⟨by rfl, by intro w_ hSw; (try dsimp only at hSw); first | (go_simp; done) | (go_simp; with_reducible rfl)⟩
      try simp only [Act.put, sAx, sZx, sSx]
      refine wpAnyH_take (i := 11) (oi := ?ois111) (v := ?vs111) ?his111 (by kernel_rfl) (by kernel_rfl) (by kernel_rfl) ?hQs111 ?hys111 hHeld ?hs111
      case his111 => (simp only [gAx, gSx, gZx]; rfl)
      case hQs111 => exact fun _ _ _ h => h
      case hys111 => exact Or.inl ⟨by rfl, by intro w_ hSw; (try dsimp only at hSw); first | (go_simp; done) | (go_simp; with_reducible rfl)⟩
      try simp only [Act.put, sAx, sZx, sSx]
      refine wpAnyH_take (i := 12) (oi := ?ois112) (v := undef) ?his112 (by kernel_rfl) (by kernel_rfl) (by kernel_rfl) ?hQs112 ?hys112 hHeld ?hs112
      case his112 => (simp only [gAx, gSx, gZx]; rfl)
      case hQs112 => exact fun _ _ _ h => h
      case hys112 => exact Or.inr ⟨by rfl, rfl⟩
      try simp only [Act.put, sAx, sZx, sSx]
      refine wpAnyH_take (i := 13) (oi := ?ois113) (v := undef) ?his113 (by kernel_rfl) (by kernel_rfl) (by kernel_rfl) ?hQs113 ?hys113 hHeld ?hs113
      case his113 => (simp only [gAx, gSx, gZx]; rfl)
      case hQs113 => exact fun _ _ _ h => h
      case hys113 => exact Or.inr ⟨by rfl, rfl⟩
      try simp only [Act.put, sAx, sZx, sSx]
      refine wpAnyH_take (i := 14) (oi := ?ois114) (v := ?vs114) ?his114 (by kernel_rfl) (by kernel_rfl) (by kernel_rfl) ?hQs114 ?hys114 hHeld ?hs114
      case his114 => (simp only [gAx, gSx, gZx]; rfl)
      case hQs114 => exact fun _ _ _ h => h
      case hys114 => exact Or.inl ⟨by rfl, by intro w_ hSw; (try dsimp only at hSw); first | (go_simp; done) | (go_simp; with_reducible rfl)⟩
      try simp only [Act.put, sAx, sZx, sSx]
      refine wpAnyH_take (i := 15) (oi := ?ois115) (v := ?vs115) ?his115 (by kernel_rfl) (by kernel_rfl) (by kernel_rfl) ?hQs115 ?hys115 hHeld ?hs115
      case his115 => (simp only [gAx, gSx, gZx]; rfl)
      case hQs115 => exact fun _ _ _ h => h
      case hys115 => exact Or.inl ⟨by rfl, by intro w_ hSw; (try dsimp only at hSw); first | (go_simp; done) | (go_simp; with_reducible rfl)⟩
      try simp only [Act.put, sAx, sZx, sSx]
      refine wpAnyH_take (i := 16) (oi := ?ois116) (v := undef) ?his116 (by kernel_rfl) (by kernel_rfl) (by kernel_rfl) ?hQs116 ?hys116 hHeld ?hs116
      case his116 => (simp only [gAx, gSx, gZx]; rfl)
      case hQs116 => exact fun _ _ _ h => h
      case hys116 => exact Or.inr ⟨by rfl, rfl⟩
      try simp only [Act.put, sAx, sZx, sSx]
      refine wpAnyH_take (i := 17) (oi := ?ois117) (v := undef) ?his117 (by kernel_rfl) (by kernel_rfl) (by kernel_rfl) ?hQs117 ?hys117 hHeld ?hs117
      case his117 => (simp only [gAx, gSx, gZx]; rfl)
      case hQs117 => exact fun _ _ _ h => h
      case hys117 => exact Or.inr ⟨by rfl, rfl⟩
      try simp only [Act.put, sAx, sZx, sSx]
      refine wpAnyH_take (i := 18) (oi := ?ois118) (v := undef) ?his118 (by kernel_rfl) (by kernel_rfl) (by kernel_rfl) ?hQs118 ?hys118 hHeld ?hs118
      case his118 => (simp only [gAx, gSx, gZx]; rfl)
      case hQs118 => exact fun _ _ _ h => h
      case hys118 => exact Or.inr ⟨by rfl, rfl⟩
      try simp only [Act.put, sAx, sZx, sSx]
      refine wpAnyH_take (i := 19) (oi := ?ois119) (v := ?vs119) ?his119 (by kernel_rfl) (by kernel_rfl) (by kernel_rfl) ?hQs119 ?hys119 hHeld ?hs119
      case his119 => (simp only [gAx, gSx, gZx]; rfl)
      case hQs119 => exact fun _ _ _ h => h
      case hys119 => exact Or.inl ⟨by rfl, by intro w_ hSw; (try dsimp only at hSw); first | (go_simp; done) | (go_simp; with_reducible rfl)⟩
      try simp only [Act.put, sAx, sZx, sSx]
      refine wpAnyH_take (i := 20) (oi := ?ois120) (v := ?vs120) ?his120 (by kernel_rfl) (by kernel_rfl) (by kernel_rfl) ?hQs120 ?hys120 hHeld ?hs120
      case his120 => (simp only [gAx, gSx, gZx]; rfl)
      case hQs120 => exact fun _ _ _ h => h
      case hys120 => exact Or.inl ⟨by rfl, by intro w_ hSw; (try dsimp only at hSw); first | (go_simp; done) | (go_simp; with_reducible rfl)⟩
      try simp only [Act.put, sAx, sZx, sSx]
      refine wpAnyH_take (i := 21) (oi := ?ois121) (v := undef) ?his121 (by kernel_rfl) (by kernel_rfl) (by kernel_rfl) ?hQs121 ?hys121 hHeld ?hs121
      case his121 => (simp only [gAx, gSx, gZx]; rfl)
      case hQs121 => exact fun _ _ _ h => h
      case hys121 => exact Or.inr ⟨by rfl, rfl⟩
      try simp only [Act.put, sAx, sZx, sSx]
      refine wpAnyH_take (i := 22) (oi := ?ois122) (v := undef) ?his122 (by kernel_rfl) (by kernel_rfl) (by kernel_rfl) ?hQs122 ?hys122 hHeld ?hs122
      case his122 => (simp only [gAx, gSx, gZx]; rfl)
      case hQs122 => exact fun _ _ _ h => h
      case hys122 => exact Or.inr ⟨by rfl, rfl⟩
      try simp only [Act.put, sAx, sZx, sSx]
      refine wpAnyH_take (i := 23) (oi := ?ois123) (v := undef) ?his123 (by kernel_rfl) (by kernel_rfl) (by kernel_rfl) ?hQs123 ?hys123 hHeld ?hs123
      case his123 => (simp only [gAx, gSx, gZx]; rfl)
      case hQs123 => exact fun _ _ _ h => h
      case hys123 => exact Or.inr ⟨by rfl, rfl⟩
      try simp only [Act.put, sAx, sZx, sSx]
      refine wpAnyH_take (i := 24) (oi := ?ois124) (v := ?vs124) ?his124 (by kernel_rfl) (by kernel_rfl) (by kernel_rfl) ?hQs124 ?hys124 hHeld ?hs124
      case his124 => (simp only [gAx, gSx, gZx]; rfl)
      case hQs124 => exact fun _ _ _ h => h
      case hys124 => exact Or.inl ⟨by rfl, by intro w_ hSw; (try dsimp only at hSw); first | (go_simp; done) | (go_simp; with_reducible rfl)⟩
      try simp only [Act.put, sAx, sZx, sSx]
      refine wpAnyH_ready (rs := [25]) (by kernel_rfl) (by simp) ?_
      refine AllReadyH.cons (o := ?ocs125) ?hcs125 (fun K hK => ?hks125) AllReadyH.nil
      case hcs125 => (simp only [gAx, gSx, gZx]; rfl)
      obtain ⟨old, hold, hsz⟩ := hHeld.2.1
      rw [if_pos (by rfl)]
      refine wp_store_row 53 (.tmp 2) (.tmp 37) rfl (w.heap.size + 1) #[.slice A0 (tw p0).length c0, .slice A1 (tw p1).length c1, .slice A2 (tw p2).length c2] rfl rfl 53 old hold hi62 hsz (by kernel_rfl) ?_
      refine hK.out _ _ ⟨(setRow_other _ _ _ _ (by omega)).trans hHeld.1, ⟨#[.slice A0 (tw p0).length c0, .slice A1 (tw p1).length c1, .slice A2 (tw p2).length c2], setRow_heap _ _ _ _ _ _ hold, rfl⟩, below_row hHeld.2.2.1 (by omega) _, by rw [size_setRow]; exact hHeld.2.2.2.1, fun k_ h1_ h2_ => (setRow_other _ _ _ _ (by omega)).trans (hHeld.2.2.2.2 k_ h1_ h2_)⟩ (fun hHeld2 => ?_)
      have HEND := Aside0.mk (setRow_heap _ _ _ #[.slice A0 (tw p0).length c0, .slice A1 (tw p1).length c1, .slice A2 (tw p2).length c2] _ _ hold)
      have hbend := hHeld2.2.2.1
      clear hK K hold hsz
      replace hHeld := hHeld2
      try simp only [Act.put, sAx, sZx, sSx]
      refine wpAnyH_take (i := 26) (oi := ?ois126) (v := ?vs126) ?his126 (by kernel_rfl) (by kernel_rfl) (by kernel_rfl) ?hQs126 ?hys126 hHeld ?hs126
      case his126 => (simp only [gAx, gSx, gZx]; rfl)
      case hQs126 => exact fun _ _ _ h => h
      case hys126 => exact Or.inl ⟨by rfl, by intro w_ hSw; (try dsimp only at hSw); first | (go_simp; done) | (go_simp; with_reducible rfl)⟩
      try simp only [Act.put, sAx, sZx, sSx]
      refine wpAnyH_done (by kernel_rfl) ?_ _
      go_wp2
      refine bodyPost_ret (v := .tuple #[.agg #[.slice A0 (tw p0).length c0, .slice A1 (tw p1).length c1, .slice A2 (tw p2).length c2], .bool false]) ?_ rfl ?_
      · exact results_list (rs := [.cell 2 53, .tmp 3]) rfl (by simp) (.cell (w.heap.size + 1) 53 #[.slice A0 (tw p0).length c0, .slice A1 (tw p1).length c1, .slice A2 (tw p2).length c2] (0, 0) _ rfl HEND.out hu62 rfl (by kernel_rfl) (.tmp .nil))
      · exact ⟨A0, c0, A1, c1, A2, c2, w6.heap.size, w7.heap.size, rfl, HS12.out, Kd.R_mono (Kd.R_move (Kd.R_bound T0.out) (fun k_ hk => hHeld.2.2.2.2 k_ (by have h1_ := hk.1.1; have h2_ := HS67.out; have h3_ := HS7.out; omega) hk.2.2.1)) (fun k_ hk => (by have h1_ := hk.1; omega)), Kd.R_mono (Kd.R_move (Kd.R_bound T1.out) (fun k_ hk => hHeld.2.2.2.2 k_ (by have h1_ := hk.1.1; have h2_ := HS67.out; have h3_ := HS7.out; omega) hk.2.2.1)) (fun k_ hk => (by have h1_ := hk.1; omega)), Kd.R_mono (Kd.R_move (Kd.R_bound T2.out) (fun k_ hk => hHeld.2.2.2.2 k_ (by have h1_ := hk.1.1; have h2_ := HS67.out; have h3_ := HS7.out; omega) hk.2.2.1)) (fun k_ hk => (by have h1_ := hk.1; omega)), hbend⟩
    | true =>
      cases z2 : zr p2 with
      | false =>
        obtain rfl : r = false := by rw [← HRR.out, z0, z1, z2]; rfl
        refine wp_region_held_drew (S := (fun W => W.heap[w.heap.size]? = some (.cells (arr (y22 p0 p1 p2 cn)) 31 (0, 0)) ∧ (∃ old : Array Value, W.heap[w.heap.size + 1]? = some (.cells old 53 (0, 0)) ∧ old.size = 3) ∧ Below w.heap.size w W ∧ w10.heap.size ≤ W.heap.size ∧ (∀ k_, w.heap.size + 2 ≤ k_ → k_ < w10.heap.size → W.heap[k_]? = w10.heap[k_]?))) (by kernel_rfl) ⟨Z10.out, ⟨_, Y10.out, rfl⟩, below_drew HBW.out, Nat.le_refl _, fun _ _ _ => rfl⟩ (fun hHeld => ?_)
        refine wpAnyH_take (i := 0) (oi := ?ois20) (v := ?vs20) ?his20 (by kernel_rfl) (by kernel_rfl) (by kernel_rfl) ?hQs20 ?hys20 hHeld ?hs20
        case his20 => (simp only [gAx, gSx, gZx]; rfl)
        case hQs20 => exact fun _ _ _ h => h
        case hys20 => exact Or.inl ⟨by rfl, by intro w_ hSw; (try dsimp only at hSw); first | (go_simp; done) | (go_simp; with_reducible rfl)⟩
        try simp only [Act.put, sAx, sZx, sSx]
        refine wpAnyH_take (i := 1) (oi := ?ois21) (v := ?vs21) ?his21 (by kernel_rfl) (by kernel_rfl) (by kernel_rfl) ?hQs21 ?hys21 hHeld ?hs21
        case his21 => (simp only [gAx, gSx, gZx]; rfl)
        case hQs21 => exact fun _ _ _ h => h
        case hys21 => exact Or.inl ⟨by rfl, by intro w_ hSw; (try dsimp only at hSw); first | (go_simp; done) | (go_simp; with_reducible rfl)⟩
        try simp only [Act.put, sAx, sZx, sSx]
        refine wpAnyH_take (i := 2) (oi := ?ois22) (v := ?vs22) ?his22 (by kernel_rfl) (by kernel_rfl) (by kernel_rfl) ?hQs22 ?hys22 hHeld ?hs22
        case his22 => (simp only [gAx, gSx, gZx]; rfl)
        case hQs22 => exact fun _ _ _ h => h
        case hys22 => exact Or.inl ⟨by rfl, by intro w_ hSw; (try dsimp only at hSw); first | (go_simp; done) | (go_simp; with_reducible rfl)⟩
        try simp only [Act.put, sAx, sZx, sSx]
        refine wpAnyH_take (i := 3) (oi := ?ois23) (v := ?vs23) ?his23 (by kernel_rfl) (by kernel_rfl) (by kernel_rfl) ?hQs23 ?hys23 hHeld ?hs23
        case his23 => (simp only [gAx, gSx, gZx]; rfl)
        case hQs23 => exact fun _ _ _ h => h
        case hys23 => exact Or.inl ⟨by rfl, by intro w_ hSw; (try dsimp only at hSw); first | (go_simp; done) | (go_simp; with_reducible rfl)⟩
        try simp only [Act.put, sAx, sZx, sSx]
        refine wpAnyH_take (i := 4) (oi := ?ois24) (v := ?vs24) ?his24 (by kernel_rfl) (by kernel_rfl) (by kernel_rfl) ?hQs24 ?hys24 hHeld ?hs24
        case his24 => (simp only [gAx, gSx, gZx]; rfl)
        case hQs24 => exact fun _ _ _ h => h
        case hys24 => exact Or.inl ⟨by rfl, by intro w_ hSw; (try dsimp only at hSw); first | (go_simp; done) | (go_simp; with_reducible rfl)⟩
        try simp only [Act.put, sAx, sZx, sSx]
        refine wpAnyH_take (i := 5) (oi := ?ois25) (v := ?vs25) ?his25 (by kernel_rfl) (by kernel_rfl) (by kernel_rfl) ?hQs25 ?hys25 hHeld ?hs25
        case his25 => (simp only [gAx, gSx, gZx]; rfl)
        case hQs25 => exact fun _ _ _ h => h
        case hys25 => exact Or.inl ⟨by rfl, by intro w_ hSw; (try dsimp only at hSw); first | (go_simp; done) | (go_simp; with_reducible rfl)⟩
        try simp only [Act.put, sAx, sZx, sSx]
        refine wpAnyH_take (i := 6) (oi := ?ois26) (v := ?vs26) ?his26 (by kernel_rfl) (by kernel_rfl) (by kernel_rfl) ?hQs26 ?hys26 hHeld ?hs26
        case his26 => (simp only [gAx, gSx, gZx]; rfl)
        case hQs26 => exact fun _ _ _ h => h
        case hys26 => exact Or.inl ⟨by rfl, by intro w_ hSw; (try dsimp only at hSw); first | (go_simp; done) | (go_simp; with_reducible rfl)⟩
        try simp only [Act.put, sAx, sZx, sSx]
        refine wpAnyH_take (i := 7) (oi := ?ois27) (v := ?vs27) ?his27 (by kernel_rfl) (by kernel_rfl) (by kernel_rfl) ?hQs27 ?hys27 hHeld ?hs27
        case his27 => (simp only [gAx, gSx, gZx]; rfl)
        case hQs27 => exact fun _ _ _ h => h
        case hys27 => exact Or.inl ⟨by rfl, by intro w_ hSw; (try dsimp only at hSw); first | (go_simp; done) | (go_simp; with_reducible rfl)⟩
        try simp only [Act.put, sAx, sZx, sSx]
        refine wpAnyH_take (i := 8) (oi := ?ois28) (v := ?vs28) ?his28 (by kernel_rfl) (by kernel_rfl) (by kernel_rfl) ?hQs28 ?hys28 hHeld ?hs28
        case his28 => (simp only [gAx, gSx, gZx]; rfl)
        case hQs28 => exact fun _ _ _ h => h
        case hys28 => exact Or.inl ⟨by rfl, by intro w_ hSw; (try dsimp only at hSw); first | (go_simp; done) | (go_simp; with_reducible rfl)⟩
        try simp only [Act.put, sAx, sZx, sSx]
        refine wpAnyH_take (i := 9) (oi := ?ois29) (v := ?vs29) ?his29 (by kernel_rfl) (by kernel_rfl) (by kernel_rfl) ?hQs29 ?hys29 hHeld ?hs29
        case his29 => (simp only [gAx, gSx, gZx]; rfl)
        case hQs29 => exact fun _ _ _ h => h
        case hys29 => exact Or.inl ⟨by rfl, by intro w_ hSw; (try dsimp only at hSw); first | (go_simp; done) | (go_simp; with_reducible rfl)⟩
        try simp only [Act.put, sAx, sZx, sSx]
        refine wpAnyH_take (i := 10) (oi := ?ois210) (v := ?vs210) ?his210 (by kernel_rfl) (by kernel_rfl) (by kernel_rfl) ?hQs210 ?hys210 hHeld ?hs210
        case his210 => (simp only [gAx, gSx, gZx]; rfl)
        case hQs210 => exact fun _ _ _ h => h
        case hys210 => exact Or.inl ⟨by rfl, by intro w_ hSw; (try dsimp only at hSw); first | (go_simp; done) | (go_simp; with_reducible rfl)⟩
        try simp only [Act.put, sAx, sZx, sSx]
        refine wpAnyH_take (i := 11) (oi := ?ois211) (v := ?vs211) ?his211 (by kernel_rfl) (by kernel_rfl) (by kernel_rfl) ?hQs211 ?hys211 hHeld ?hs211
        case his211 => (simp only [gAx, gSx, gZx]; rfl)
        case hQs211 => exact fun _ _ _ h => h
        case hys211 => exact Or.inl ⟨by rfl, by intro w_ hSw; (try dsimp only at hSw); first | (go_simp; done) | (go_simp; with_reducible rfl)⟩
        try simp only [Act.put, sAx, sZx, sSx]
        refine wpAnyH_take (i := 12) (oi := ?ois212) (v := undef) ?his212 (by kernel_rfl) (by kernel_rfl) (by kernel_rfl) ?hQs212 ?hys212 hHeld ?hs212
        case his212 => (simp only [gAx, gSx, gZx]; rfl)
        case hQs212 => exact fun _ _ _ h => h
        case hys212 => exact Or.inr ⟨by rfl, rfl⟩
        try simp only [Act.put, sAx, sZx, sSx]
        refine wpAnyH_take (i := 13) (oi := ?ois213) (v := undef) ?his213 (by kernel_rfl) (by kernel_rfl) (by kernel_rfl) ?hQs213 ?hys213 hHeld ?hs213
        case his213 => (simp only [gAx, gSx, gZx]; rfl)
        case hQs213 => exact fun _ _ _ h => h
        case hys213 => exact Or.inr ⟨by rfl, rfl⟩
        try simp only [Act.put, sAx, sZx, sSx]
        refine wpAnyH_take (i := 14) (oi := ?ois214) (v := ?vs214) ?his214 (by kernel_rfl) (by kernel_rfl) (by kernel_rfl) ?hQs214 ?hys214 hHeld ?hs214
        case his214 => (simp only [gAx, gSx, gZx]; rfl)
        case hQs214 => exact fun _ _ _ h => h
        case hys214 => exact Or.inl ⟨by rfl, by intro w_ hSw; (try dsimp only at hSw); first | (go_simp; done) | (go_simp; with_reducible rfl)⟩
        try simp only [Act.put, sAx, sZx, sSx]
        refine wpAnyH_take (i := 15) (oi := ?ois215) (v := ?vs215) ?his215 (by kernel_rfl) (by kernel_rfl) (by kernel_rfl) ?hQs215 ?hys215 hHeld ?hs215
        case his215 => (simp only [gAx, gSx, gZx]; rfl)
        case hQs215 => exact fun _ _ _ h => h
        case hys215 => exact Or.inl ⟨by rfl, by intro w_ hSw; (try dsimp only at hSw); first | (go_simp; done) | (go_simp; with_reducible rfl)⟩
        try simp only [Act.put, sAx, sZx, sSx]
        refine wpAnyH_take (i := 16) (oi := ?ois216) (v := undef) ?his216 (by kernel_rfl) (by kernel_rfl) (by kernel_rfl) ?hQs216 ?hys216 hHeld ?hs216
        case his216 => (simp only [gAx, gSx, gZx]; rfl)
        case hQs216 => exact fun _ _ _ h => h
        case hys216 => exact Or.inr ⟨by rfl, rfl⟩
        try simp only [Act.put, sAx, sZx, sSx]
        refine wpAnyH_take (i := 17) (oi := ?ois217) (v := undef) ?his217 (by kernel_rfl) (by kernel_rfl) (by kernel_rfl) ?hQs217 ?hys217 hHeld ?hs217
        case his217 => (simp only [gAx, gSx, gZx]; rfl)
        case hQs217 => exact fun _ _ _ h => h
        case hys217 => exact Or.inr ⟨by rfl, rfl⟩
        try simp only [Act.put, sAx, sZx, sSx]
        refine wpAnyH_take (i := 18) (oi := ?ois218) (v := undef) ?his218 (by kernel_rfl) (by kernel_rfl) (by kernel_rfl) ?hQs218 ?hys218 hHeld ?hs218
        case his218 => (simp only [gAx, gSx, gZx]; rfl)
        case hQs218 => exact fun _ _ _ h => h
        case hys218 => exact Or.inr ⟨by rfl, rfl⟩
        try simp only [Act.put, sAx, sZx, sSx]
        refine wpAnyH_take (i := 19) (oi := ?ois219) (v := ?vs219) ?his219 (by kernel_rfl) (by kernel_rfl) (by kernel_rfl) ?hQs219 ?hys219 hHeld ?hs219
        case his219 => (simp only [gAx, gSx, gZx]; rfl)
        case hQs219 => exact fun _ _ _ h => h
        case hys219 => exact Or.inl ⟨by rfl, by intro w_ hSw; (try dsimp only at hSw); first | (go_simp; done) | (go_simp; with_reducible rfl)⟩
        try simp only [Act.put, sAx, sZx, sSx]
        refine wpAnyH_take (i := 20) (oi := ?ois220) (v := ?vs220) ?his220 (by kernel_rfl) (by kernel_rfl) (by kernel_rfl) ?hQs220 ?hys220 hHeld ?hs220
        case his220 => (simp only [gAx, gSx, gZx]; rfl)
        case hQs220 => exact fun _ _ _ h => h
        case hys220 => exact Or.inl ⟨by rfl, by intro w_ hSw; (try dsimp only at hSw); first | (go_simp; done) | (go_simp; with_reducible rfl)⟩
        try simp only [Act.put, sAx, sZx, sSx]
        refine wpAnyH_take (i := 21) (oi := ?ois221) (v := undef) ?his221 (by kernel_rfl) (by kernel_rfl) (by kernel_rfl) ?hQs221 ?hys221 hHeld ?hs221
        case his221 => (simp only [gAx, gSx, gZx]; rfl)
        case hQs221 => exact fun _ _ _ h => h
        case hys221 => exact Or.inr ⟨by rfl, rfl⟩
        try simp only [Act.put, sAx, sZx, sSx]
        refine wpAnyH_take (i := 22) (oi := ?ois222) (v := undef) ?his222 (by kernel_rfl) (by kernel_rfl) (by kernel_rfl) ?hQs222 ?hys222 hHeld ?hs222
        case his222 => (simp only [gAx, gSx, gZx]; rfl)
        case hQs222 => exact fun _ _ _ h => h
        case hys222 => exact Or.inr ⟨by rfl, rfl⟩
        try simp only [Act.put, sAx, sZx, sSx]
        refine wpAnyH_take (i := 23) (oi := ?ois223) (v := undef) ?his223 (by kernel_rfl) (by kernel_rfl) (by kernel_rfl) ?hQs223 ?hys223 hHeld ?hs223
        case his223 => (simp only [gAx, gSx, gZx]; rfl)
        case hQs223 => exact fun _ _ _ h => h
        case hys223 => exact Or.inr ⟨by rfl, rfl⟩
        try simp only [Act.put, sAx, sZx, sSx]
        refine wpAnyH_take (i := 24) (oi := ?ois224) (v := ?vs224) ?his224 (by kernel_rfl) (by kernel_rfl) (by kernel_rfl) ?hQs224 ?hys224 hHeld ?hs224
        case his224 => (simp only [gAx, gSx, gZx]; rfl)
        case hQs224 => exact fun _ _ _ h => h
        case hys224 => exact Or.inl ⟨by rfl, by intro w_ hSw; (try dsimp only at hSw); first | (go_simp; done) | (go_simp; with_reducible rfl)⟩
        try simp only [Act.put, sAx, sZx, sSx]
        refine wpAnyH_ready (rs := [25]) (by kernel_rfl) (by simp) ?_
        refine AllReadyH.cons (o := ?ocs225) ?hcs225 (fun K hK => ?hks225) AllReadyH.nil
        case hcs225 => (simp only [gAx, gSx, gZx]; rfl)
        obtain ⟨old, hold, hsz⟩ := hHeld.2.1
        rw [if_pos (by rfl)]
        refine wp_store_row 53 (.tmp 2) (.tmp 37) rfl (w.heap.size + 1) #[.slice A0 (tw p0).length c0, .slice A1 (tw p1).length c1, .slice A2 (tw p2).length c2] rfl rfl 53 old hold hi62 hsz (by kernel_rfl) ?_
        refine hK.out _ _ ⟨(setRow_other _ _ _ _ (by omega)).trans hHeld.1, ⟨#[.slice A0 (tw p0).length c0, .slice A1 (tw p1).length c1, .slice A2 (tw p2).length c2], setRow_heap _ _ _ _ _ _ hold, rfl⟩, below_row hHeld.2.2.1 (by omega) _, by rw [size_setRow]; exact hHeld.2.2.2.1, fun k_ h1_ h2_ => (setRow_other _ _ _ _ (by omega)).trans (hHeld.2.2.2.2 k_ h1_ h2_)⟩ (fun hHeld2 => ?_)
        have HEND := Aside0.mk (setRow_heap _ _ _ #[.slice A0 (tw p0).length c0, .slice A1 (tw p1).length c1, .slice A2 (tw p2).length c2] _ _ hold)
        have hbend := hHeld2.2.2.1
        clear hK K hold hsz
        replace hHeld := hHeld2
        try simp only [Act.put, sAx, sZx, sSx]
        refine wpAnyH_take (i := 26) (oi := ?ois226) (v := ?vs226) ?his226 (by kernel_rfl) (by kernel_rfl) (by kernel_rfl) ?hQs226 ?hys226 hHeld ?hs226
        case his226 => (simp only [gAx, gSx, gZx]; rfl)
        case hQs226 => exact fun _ _ _ h => h
        case hys226 => exact Or.inl ⟨by rfl, by intro w_ hSw; (try dsimp only at hSw); first | (go_simp; done) | (go_simp; with_reducible rfl)⟩
        try simp only [Act.put, sAx, sZx, sSx]
        refine wpAnyH_done (by kernel_rfl) ?_ _
        go_wp2
        refine bodyPost_ret (v := .tuple #[.agg #[.slice A0 (tw p0).length c0, .slice A1 (tw p1).length c1, .slice A2 (tw p2).length c2], .bool false]) ?_ rfl ?_
        · exact results_list (rs := [.cell 2 53, .tmp 3]) rfl (by simp) (.cell (w.heap.size + 1) 53 #[.slice A0 (tw p0).length c0, .slice A1 (tw p1).length c1, .slice A2 (tw p2).length c2] (0, 0) _ rfl HEND.out hu62 rfl (by kernel_rfl) (.tmp .nil))
        · exact ⟨A0, c0, A1, c1, A2, c2, w6.heap.size, w7.heap.size, rfl, HS12.out, Kd.R_mono (Kd.R_move (Kd.R_bound T0.out) (fun k_ hk => hHeld.2.2.2.2 k_ (by have h1_ := hk.1.1; have h2_ := HS67.out; have h3_ := HS7.out; omega) hk.2.2.1)) (fun k_ hk => (by have h1_ := hk.1; omega)), Kd.R_mono (Kd.R_move (Kd.R_bound T1.out) (fun k_ hk => hHeld.2.2.2.2 k_ (by have h1_ := hk.1.1; have h2_ := HS67.out; have h3_ := HS7.out; omega) hk.2.2.1)) (fun k_ hk => (by have h1_ := hk.1; omega)), Kd.R_mono (Kd.R_move (Kd.R_bound T2.out) (fun k_ hk => hHeld.2.2.2.2 k_ (by have h1_ := hk.1.1; have h2_ := HS67.out; have h3_ := HS7.out; omega) hk.2.2.1)) (fun k_ hk => (by have h1_ := hk.1; omega)), hbend⟩
      | true =>
        cases t with
        | false =>
          obtain rfl : r = false := by rw [← HRR.out, z0, z1, z2]; rfl
          refine wp_region_held_drew (S := (fun W => W.heap[w.heap.size]? = some (.cells (arr (y22 p0 p1 p2 cn)) 31 (0, 0)) ∧ (∃ old : Array Value, W.heap[w.heap.size + 1]? = some (.cells old 53 (0, 0)) ∧ old.size = 3) ∧ Below w.heap.size w W ∧ w10.heap.size ≤ W.heap.size ∧ (∀ k_, w.heap.size + 2 ≤ k_ → k_ < w10.heap.size → W.heap[k_]? = w10.heap[k_]?))) (by kernel_rfl) ⟨Z10.out, ⟨_, Y10.out, rfl⟩, below_drew HBW.out, Nat.le_refl _, fun _ _ _ => rfl⟩ (fun hHeld => ?_)
          refine wpAnyH_take (i := 0) (oi := ?ois30) (v := ?vs30) ?his30 (by kernel_rfl) (by kernel_rfl) (by kernel_rfl) ?hQs30 ?hys30 hHeld ?hs30
          case his30 => (simp only [gAx, gSx, gZx]; rfl)
          case hQs30 => exact fun _ _ _ h => h
          case hys30 => exact Or.inl ⟨by rfl, by intro w_ hSw; (try dsimp only at hSw); first | (go_simp; done) | (go_simp; with_reducible rfl)⟩
          try simp only [Act.put, sAx, sZx, sSx]
          refine wpAnyH_take (i := 1) (oi := ?ois31) (v := ?vs31) ?his31 (by kernel_rfl) (by kernel_rfl) (by kernel_rfl) ?hQs31 ?hys31 hHeld ?hs31
          case his31 => (simp only [gAx, gSx, gZx]; rfl)
          case hQs31 => exact fun _ _ _ h => h
          case hys31 => exact Or.inl ⟨by rfl, by intro w_ hSw; (try dsimp only at hSw); first | (go_simp; done) | (go_simp; with_reducible rfl)⟩
          try simp only [Act.put, sAx, sZx, sSx]
          refine wpAnyH_take (i := 2) (oi := ?ois32) (v := ?vs32) ?his32 (by kernel_rfl) (by kernel_rfl) (by kernel_rfl) ?hQs32 ?hys32 hHeld ?hs32
          case his32 => (simp only [gAx, gSx, gZx]; rfl)
          case hQs32 => exact fun _ _ _ h => h
          case hys32 => exact Or.inl ⟨by rfl, by intro w_ hSw; (try dsimp only at hSw); first | (go_simp; done) | (go_simp; with_reducible rfl)⟩
          try simp only [Act.put, sAx, sZx, sSx]
          refine wpAnyH_take (i := 3) (oi := ?ois33) (v := ?vs33) ?his33 (by kernel_rfl) (by kernel_rfl) (by kernel_rfl) ?hQs33 ?hys33 hHeld ?hs33
          case his33 => (simp only [gAx, gSx, gZx]; rfl)
          case hQs33 => exact fun _ _ _ h => h
          case hys33 => exact Or.inl ⟨by rfl, by intro w_ hSw; (try dsimp only at hSw); first | (go_simp; done) | (go_simp; with_reducible rfl)⟩
          try simp only [Act.put, sAx, sZx, sSx]
          refine wpAnyH_take (i := 4) (oi := ?ois34) (v := ?vs34) ?his34 (by kernel_rfl) (by kernel_rfl) (by kernel_rfl) ?hQs34 ?hys34 hHeld ?hs34
          case his34 => (simp only [gAx, gSx, gZx]; rfl)
          case hQs34 => exact fun _ _ _ h => h
          case hys34 => exact Or.inl ⟨by rfl, by intro w_ hSw; (try dsimp only at hSw); first | (go_simp; done) | (go_simp; with_reducible rfl)⟩
          try simp only [Act.put, sAx, sZx, sSx]
          refine wpAnyH_take (i := 5) (oi := ?ois35) (v := ?vs35) ?his35 (by kernel_rfl) (by kernel_rfl) (by kernel_rfl) ?hQs35 ?hys35 hHeld ?hs35
          case his35 => (simp only [gAx, gSx, gZx]; rfl)
          case hQs35 => exact fun _ _ _ h => h
          case hys35 => exact Or.inl ⟨by rfl, by intro w_ hSw; (try dsimp only at hSw); first | (go_simp; done) | (go_simp; with_reducible rfl)⟩
          try simp only [Act.put, sAx, sZx, sSx]
          refine wpAnyH_take (i := 6) (oi := ?ois36) (v := ?vs36) ?his36 (by kernel_rfl) (by kernel_rfl) (by kernel_rfl) ?hQs36 ?hys36 hHeld ?hs36
          case his36 => (simp only [gAx, gSx, gZx]; rfl)
          case hQs36 => exact fun _ _ _ h => h
          case hys36 => exact Or.inl ⟨by rfl, by intro w_ hSw; (try dsimp only at hSw); first | (go_simp; done) | (go_simp; with_reducible rfl)⟩
          try simp only [Act.put, sAx, sZx, sSx]
          refine wpAnyH_take (i := 7) (oi := ?ois37) (v := ?vs37) ?his37 (by kernel_rfl) (by kernel_rfl) (by kernel_rfl) ?hQs37 ?hys37 hHeld ?hs37
          case his37 => (simp only [gAx, gSx, gZx]; rfl)
          case hQs37 => exact fun _ _ _ h => h
          case hys37 => exact Or.inl ⟨by rfl, by intro w_ hSw; (try dsimp only at hSw); first | (go_simp; done) | (go_simp; with_reducible rfl)⟩
          try simp only [Act.put, sAx, sZx, sSx]
          refine wpAnyH_take (i := 8) (oi := ?ois38) (v := ?vs38) ?his38 (by kernel_rfl) (by kernel_rfl) (by kernel_rfl) ?hQs38 ?hys38 hHeld ?hs38
          case his38 => (simp only [gAx, gSx, gZx]; rfl)
          case hQs38 => exact fun _ _ _ h => h
          case hys38 => exact Or.inl ⟨by rfl, by intro w_ hSw; (try dsimp only at hSw); first | (go_simp; done) | (go_simp; with_reducible rfl)⟩
          try simp only [Act.put, sAx, sZx, sSx]
          refine wpAnyH_take (i := 9) (oi := ?ois39) (v := ?vs39) ?his39 (by kernel_rfl) (by kernel_rfl) (by kernel_rfl) ?hQs39 ?hys39 hHeld ?hs39
          case his39 => (simp only [gAx, gSx, gZx]; rfl)
          case hQs39 => exact fun _ _ _ h => h
          case hys39 => exact Or.inl ⟨by rfl, by intro w_ hSw; (try dsimp only at hSw); first | (go_simp; done) | (go_simp; with_reducible rfl)⟩
          try simp only [Act.put, sAx, sZx, sSx]
          refine wpAnyH_take (i := 10) (oi := ?ois310) (v := ?vs310) ?his310 (by kernel_rfl) (by kernel_rfl) (by kernel_rfl) ?hQs310 ?hys310 hHeld ?hs310
          case his310 => (simp only [gAx, gSx, gZx]; rfl)
          case hQs310 => exact fun _ _ _ h => h
          case hys310 => exact Or.inl ⟨by rfl, by intro w_ hSw; (try dsimp only at hSw); first | (go_simp; done) | (go_simp; with_reducible rfl)⟩
          try simp only [Act.put, sAx, sZx, sSx]
          refine wpAnyH_take (i := 11) (oi := ?ois311) (v := ?vs311) ?his311 (by kernel_rfl) (by kernel_rfl) (by kernel_rfl) ?hQs311 ?hys311 hHeld ?hs311
          case his311 => (simp only [gAx, gSx, gZx]; rfl)
          case hQs311 => exact fun _ _ _ h => h
          case hys311 => exact Or.inl ⟨by rfl, by intro w_ hSw; (try dsimp only at hSw); first | (go_simp; done) | (go_simp; with_reducible rfl)⟩
          try simp only [Act.put, sAx, sZx, sSx]
          refine wpAnyH_take (i := 12) (oi := ?ois312) (v := ?vs312) ?his312 (by kernel_rfl) (by kernel_rfl) (by kernel_rfl) ?hQs312 ?hys312 hHeld ?hs312
          case his312 => (simp only [gAx, gSx, gZx]; rfl)
          case hQs312 => exact fun _ _ _ h => h
          case hys312 => exact Or.inl ⟨by rfl, by intro w_ hSw; (try dsimp only at hSw); first | (go_simp; done) | (go_simp; with_reducible rfl)⟩
          try simp only [Act.put, sAx, sZx, sSx]
          refine wpAnyH_ready (rs := [13]) (by kernel_rfl) (by simp) ?_
          refine AllReadyH.cons (o := ?ocs313) ?hcs313 (fun K hK => ?hks313) AllReadyH.nil
          case hcs313 => (simp only [gAx, gSx, gZx]; rfl)
          go_simp
          go_at_call 30
          refine (impl_isOrder.calls k A8 c8 al _ _ (C_of_same HO10.out (fun k_ h1_ h2_ => hHeld.2.2.2.2 k_ (by have := HSZ.out; omega) h2_)) HL10.out HT.out).mono ?_
          rintro e w_9 ⟨rfl, hd⟩
          have hb9 := Drawn0.below hd
          clear hd
          try dsimp only
          refine hK.out _ _ ⟨(hb9.block _ (lt_of_block (hHeld.1))).trans (hHeld.1), ⟨hHeld.2.1.choose, (hb9.block _ (lt_of_block (hHeld.2.1.choose_spec.1))).trans (hHeld.2.1.choose_spec.1), hHeld.2.1.choose_spec.2⟩, below_step hHeld.2.2.1 hb9, Nat.le_trans hHeld.2.2.2.1 hb9.size, fun k_ h1_ h2_ => (hb9.block k_ (Nat.lt_of_lt_of_le h2_ hHeld.2.2.2.1)).trans (hHeld.2.2.2.2 k_ h1_ h2_)⟩ (fun hHeld => ?_)
          clear hK K
          try simp only [Act.put, sAx, sZx, sSx]
          refine wpAnyH_take (i := 14) (oi := ?ois314) (v := ?vs314) ?his314 (by kernel_rfl) (by kernel_rfl) (by kernel_rfl) ?hQs314 ?hys314 hHeld ?hs314
          case his314 => (simp only [gAx, gSx, gZx]; rfl)
          case hQs314 => exact fun _ _ _ h => h
          case hys314 => exact Or.inl ⟨by rfl, by intro w_ hSw; (try dsimp only at hSw); first | (go_simp; done) | (go_simp; with_reducible rfl)⟩
          try simp only [Act.put, sAx, sZx, sSx]
          refine wpAnyH_take (i := 15) (oi := ?ois315) (v := ?vs315) ?his315 (by kernel_rfl) (by kernel_rfl) (by kernel_rfl) ?hQs315 ?hys315 hHeld ?hs315
          case his315 => (simp only [gAx, gSx, gZx]; rfl)
          case hQs315 => exact fun _ _ _ h => h
          case hys315 => exact Or.inl ⟨by rfl, by intro w_ hSw; (try dsimp only at hSw); first | (go_simp; done) | (go_simp; with_reducible rfl)⟩
          try simp only [Act.put, sAx, sZx, sSx]
          refine wpAnyH_take (i := 16) (oi := ?ois316) (v := undef) ?his316 (by kernel_rfl) (by kernel_rfl) (by kernel_rfl) ?hQs316 ?hys316 hHeld ?hs316
          case his316 => (simp only [gAx, gSx, gZx]; rfl)
          case hQs316 => exact fun _ _ _ h => h
          case hys316 => exact Or.inr ⟨by rfl, rfl⟩
          try simp only [Act.put, sAx, sZx, sSx]
          refine wpAnyH_take (i := 17) (oi := ?ois317) (v := undef) ?his317 (by kernel_rfl) (by kernel_rfl) (by kernel_rfl) ?hQs317 ?hys317 hHeld ?hs317
          case his317 => (simp only [gAx, gSx, gZx]; rfl)
          case hQs317 => exact fun _ _ _ h => h
          case hys317 => exact Or.inr ⟨by rfl, rfl⟩
          try simp only [Act.put, sAx, sZx, sSx]
          refine wpAnyH_take (i := 18) (oi := ?ois318) (v := undef) ?his318 (by kernel_rfl) (by kernel_rfl) (by kernel_rfl) ?hQs318 ?hys318 hHeld ?hs318
          case his318 => (simp only [gAx, gSx, gZx]; rfl)
          case hQs318 => exact fun _ _ _ h => h
          case hys318 => exact Or.inr ⟨by rfl, rfl⟩
          try simp only [Act.put, sAx, sZx, sSx]
          refine wpAnyH_take (i := 19) (oi := ?ois319) (v := ?vs319) ?his319 (by kernel_rfl) (by kernel_rfl) (by kernel_rfl) ?hQs319 ?hys319 hHeld ?hs319
          case his319 => (simp only [gAx, gSx, gZx]; rfl)
          case hQs319 => exact fun _ _ _ h => h
          case hys319 => exact Or.inl ⟨by rfl, by intro w_ hSw; (try dsimp only at hSw); first | (go_simp; done) | (go_simp; with_reducible rfl)⟩
          try simp only [Act.put, sAx, sZx, sSx]
          refine wpAnyH_take (i := 20) (oi := ?ois320) (v := ?vs320) ?his320 (by kernel_rfl) (by kernel_rfl) (by kernel_rfl) ?hQs320 ?hys320 hHeld ?hs320
          case his320 => (simp only [gAx, gSx, gZx]; rfl)
          case hQs320 => exact fun _ _ _ h => h
          case hys320 => exact Or.inl ⟨by rfl, by intro w_ hSw; (try dsimp only at hSw); first | (go_simp; done) | (go_simp; with_reducible rfl)⟩
          try simp only [Act.put, sAx, sZx, sSx]
          refine wpAnyH_take (i := 21) (oi := ?ois321) (v := undef) ?his321 (by kernel_rfl) (by kernel_rfl) (by kernel_rfl) ?hQs321 ?hys321 hHeld ?hs321
          case his321 => (simp only [gAx, gSx, gZx]; rfl)
          case hQs321 => exact fun _ _ _ h => h
          case hys321 => exact Or.inr ⟨by rfl, rfl⟩
          try simp only [Act.put, sAx, sZx, sSx]
          refine wpAnyH_take (i := 22) (oi := ?ois322) (v := undef) ?his322 (by kernel_rfl) (by kernel_rfl) (by kernel_rfl) ?hQs322 ?hys322 hHeld ?hs322
          case his322 => (simp only [gAx, gSx, gZx]; rfl)
          case hQs322 => exact fun _ _ _ h => h
          case hys322 => exact Or.inr ⟨by rfl, rfl⟩
          try simp only [Act.put, sAx, sZx, sSx]
          refine wpAnyH_take (i := 23) (oi := ?ois323) (v := undef) ?his323 (by kernel_rfl) (by kernel_rfl) (by kernel_rfl) ?hQs323 ?hys323 hHeld ?hs323
          case his323 => (simp only [gAx, gSx, gZx]; rfl)
          case hQs323 => exact fun _ _ _ h => h
          case hys323 => exact Or.inr ⟨by rfl, rfl⟩
          try simp only [Act.put, sAx, sZx, sSx]
          refine wpAnyH_take (i := 24) (oi := ?ois324) (v := ?vs324) ?his324 (by kernel_rfl) (by kernel_rfl) (by kernel_rfl) ?hQs324 ?hys324 hHeld ?hs324
          case his324 => (simp only [gAx, gSx, gZx]; rfl)
          case hQs324 => exact fun _ _ _ h => h
          case hys324 => exact Or.inl ⟨by rfl, by intro w_ hSw; (try dsimp only at hSw); first | (go_simp; done) | (go_simp; with_reducible rfl)⟩
          try simp only [Act.put, sAx, sZx, sSx]
          refine wpAnyH_ready (rs := [25]) (by kernel_rfl) (by simp) ?_
          refine AllReadyH.cons (o := ?ocs325) ?hcs325 (fun K hK => ?hks325) AllReadyH.nil
          case hcs325 => (simp only [gAx, gSx, gZx]; rfl)
          obtain ⟨old, hold, hsz⟩ := hHeld.2.1
          rw [if_pos (by rfl)]
          refine wp_store_row 53 (.tmp 2) (.tmp 37) rfl (w.heap.size + 1) #[.slice A0 (tw p0).length c0, .slice A1 (tw p1).length c1, .slice A2 (tw p2).length c2] rfl rfl 53 old hold hi62 hsz (by kernel_rfl) ?_
          refine hK.out _ _ ⟨(setRow_other _ _ _ _ (by omega)).trans hHeld.1, ⟨#[.slice A0 (tw p0).length c0, .slice A1 (tw p1).length c1, .slice A2 (tw p2).length c2], setRow_heap _ _ _ _ _ _ hold, rfl⟩, below_row hHeld.2.2.1 (by omega) _, by rw [size_setRow]; exact hHeld.2.2.2.1, fun k_ h1_ h2_ => (setRow_other _ _ _ _ (by omega)).trans (hHeld.2.2.2.2 k_ h1_ h2_)⟩ (fun hHeld2 => ?_)
          have HEND := Aside0.mk (setRow_heap _ _ _ #[.slice A0 (tw p0).length c0, .slice A1 (tw p1).length c1, .slice A2 (tw p2).length c2] _ _ hold)
          have hbend := hHeld2.2.2.1
          clear hK K hold hsz
          replace hHeld := hHeld2
          try simp only [Act.put, sAx, sZx, sSx]
          refine wpAnyH_take (i := 26) (oi := ?ois326) (v := ?vs326) ?his326 (by kernel_rfl) (by kernel_rfl) (by kernel_rfl) ?hQs326 ?hys326 hHeld ?hs326
          case his326 => (simp only [gAx, gSx, gZx]; rfl)
          case hQs326 => exact fun _ _ _ h => h
          case hys326 => exact Or.inl ⟨by rfl, by intro w_ hSw; (try dsimp only at hSw); first | (go_simp; done) | (go_simp; with_reducible rfl)⟩
          try simp only [Act.put, sAx, sZx, sSx]
          refine wpAnyH_done (by kernel_rfl) ?_ _
          go_wp2
          refine bodyPost_ret (v := .tuple #[.agg #[.slice A0 (tw p0).length c0, .slice A1 (tw p1).length c1, .slice A2 (tw p2).length c2], .bool false]) ?_ rfl ?_
          · exact results_list (rs := [.cell 2 53, .tmp 3]) rfl (by simp) (.cell (w.heap.size + 1) 53 #[.slice A0 (tw p0).length c0, .slice A1 (tw p1).length c1, .slice A2 (tw p2).length c2] (0, 0) _ rfl HEND.out hu62 rfl (by kernel_rfl) (.tmp .nil))
          · exact ⟨A0, c0, A1, c1, A2, c2, w6.heap.size, w7.heap.size, rfl, HS12.out, Kd.R_mono (Kd.R_move (Kd.R_bound T0.out) (fun k_ hk => hHeld.2.2.2.2 k_ (by have h1_ := hk.1.1; have h2_ := HS67.out; have h3_ := HS7.out; omega) hk.2.2.1)) (fun k_ hk => (by have h1_ := hk.1; omega)), Kd.R_mono (Kd.R_move (Kd.R_bound T1.out) (fun k_ hk => hHeld.2.2.2.2 k_ (by have h1_ := hk.1.1; have h2_ := HS67.out; have h3_ := HS7.out; omega) hk.2.2.1)) (fun k_ hk => (by have h1_ := hk.1; omega)), Kd.R_mono (Kd.R_move (Kd.R_bound T2.out) (fun k_ hk => hHeld.2.2.2.2 k_ (by have h1_ := hk.1.1; have h2_ := HS67.out; have h3_ := HS7.out; omega) hk.2.2.1)) (fun k_ hk => (by have h1_ := hk.1; omega)), hbend⟩
        | true =>
          cases d0 : decide (0 ≤ cn) with
          | false =>
            obtain rfl : r = false := by rw [← HRR.out, z0, z1, z2, d0]; rfl
            refine wp_region_held_drew (S := (fun W => W.heap[w.heap.size]? = some (.cells (arr (y22 p0 p1 p2 cn)) 31 (0, 0)) ∧ (∃ old : Array Value, W.heap[w.heap.size + 1]? = some (.cells old 53 (0, 0)) ∧ old.size = 3) ∧ Below w.heap.size w W ∧ w10.heap.size ≤ W.heap.size ∧ (∀ k_, w.heap.size + 2 ≤ k_ → k_ < w10.heap.size → W.heap[k_]? = w10.heap[k_]?))) (by kernel_rfl) ⟨Z10.out, ⟨_, Y10.out, rfl⟩, below_drew HBW.out, Nat.le_refl _, fun _ _ _ => rfl⟩ (fun hHeld => ?_)
            refine wpAnyH_take (i := 0) (oi := ?ois40) (v := ?vs40) ?his40 (by kernel_rfl) (by kernel_rfl) (by kernel_rfl) ?hQs40 ?hys40 hHeld ?hs40
            case his40 => (simp only [gAx, gSx, gZx]; rfl)
            case hQs40 => exact fun _ _ _ h => h
            case hys40 => exact Or.inl ⟨by rfl, by intro w_ hSw; (try dsimp only at hSw); first | (go_simp; done) | (go_simp; with_reducible rfl)⟩
            try simp only [Act.put, sAx, sZx, sSx]
            refine wpAnyH_take (i := 1) (oi := ?ois41) (v := ?vs41) ?his41 (by kernel_rfl) (by kernel_rfl) (by kernel_rfl) ?hQs41 ?hys41 hHeld ?hs41
            case his41 => (simp only [gAx, gSx, gZx]; rfl)
            case hQs41 => exact fun _ _ _ h => h
            case hys41 => exact Or.inl ⟨by rfl, by intro w_ hSw; (try dsimp only at hSw); first | (go_simp; done) | (go_simp; with_reducible rfl)⟩
            try simp only [Act.put, sAx, sZx, sSx]
            refine wpAnyH_take (i := 2) (oi := ?ois42) (v := ?vs42) ?his42 (by kernel_rfl) (by kernel_rfl) (by kernel_rfl) ?hQs42 ?hys42 hHeld ?hs42
            case his42 => (simp only [gAx, gSx, gZx]; rfl)
            case hQs42 => exact fun _ _ _ h => h
            case hys42 => exact Or.inl ⟨by rfl, by intro w_ hSw; (try dsimp only at hSw); first | (go_simp; done) | (go_simp; with_reducible rfl)⟩
            try simp only [Act.put, sAx, sZx, sSx]
            refine wpAnyH_take (i := 3) (oi := ?ois43) (v := ?vs43) ?his43 (by kernel_rfl) (by kernel_rfl) (by kernel_rfl) ?hQs43 ?hys43 hHeld ?hs43
            case his43 => (simp only [gAx, gSx, gZx]; rfl)
            case hQs43 => exact fun _ _ _ h => h
            case hys43 => exact Or.inl ⟨by rfl, by intro w_ hSw; (try dsimp only at hSw); first | (go_simp; done) | (go_simp; with_reducible rfl)⟩
            try simp only [Act.put, sAx, sZx, sSx]
            refine wpAnyH_take (i := 4) (oi := ?ois44) (v := ?vs44) ?his44 (by kernel_rfl) (by kernel_rfl) (by kernel_rfl) ?hQs44 ?hys44 hHeld ?hs44
            case his44 => (simp only [gAx, gSx, gZx]; rfl)
            case hQs44 => exact fun _ _ _ h => h
            case hys44 => exact Or.inl ⟨by rfl, by intro w_ hSw; (try dsimp only at hSw); first | (go_simp; done) | (go_simp; with_reducible rfl)⟩
            try simp only [Act.put, sAx, sZx, sSx]
            refine wpAnyH_take (i := 5) (oi := ?ois45) (v := ?vs45) ?his45 (by kernel_rfl) (by kernel_rfl) (by kernel_rfl) ?hQs45 ?hys45 hHeld ?hs45
            case his45 => (simp only [gAx, gSx, gZx]; rfl)
            case hQs45 => exact fun _ _ _ h => h
            case hys45 => exact Or.inl ⟨by rfl, by intro w_ hSw; (try dsimp only at hSw); first | (go_simp; done) | (go_simp; with_reducible rfl)⟩
            try simp only [Act.put, sAx, sZx, sSx]
            refine wpAnyH_take (i := 6) (oi := ?ois46) (v := ?vs46) ?his46 (by kernel_rfl) (by kernel_rfl) (by kernel_rfl) ?hQs46 ?hys46 hHeld ?hs46
            case his46 => (simp only [gAx, gSx, gZx]; rfl)
            case hQs46 => exact fun _ _ _ h => h
            case hys46 => exact Or.inl ⟨by rfl, by intro w_ hSw; (try dsimp only at hSw); first | (go_simp; done) | (go_simp; with_reducible rfl)⟩
            try simp only [Act.put, sAx, sZx, sSx]
            refine wpAnyH_take (i := 7) (oi := ?ois47) (v := ?vs47) ?his47 (by kernel_rfl) (by kernel_rfl) (by kernel_rfl) ?hQs47 ?hys47 hHeld ?hs47
            case his47 => (simp only [gAx, gSx, gZx]; rfl)
            case hQs47 => exact fun _ _ _ h => h
            case hys47 => exact Or.inl ⟨by rfl, by intro w_ hSw; (try dsimp only at hSw); first | (go_simp; done) | (go_simp; with_reducible rfl)⟩
            try simp only [Act.put, sAx, sZx, sSx]
            refine wpAnyH_take (i := 8) (oi := ?ois48) (v := ?vs48) ?his48 (by kernel_rfl) (by kernel_rfl) (by kernel_rfl) ?hQs48 ?hys48 hHeld ?hs48
            case his48 => (simp only [gAx, gSx, gZx]; rfl)
            case hQs48 => exact fun _ _ _ h => h
            case hys48 => exact Or.inl ⟨by rfl, by intro w_ hSw; (try dsimp only at hSw); first | (go_simp; done) | (go_simp; with_reducible rfl)⟩
            try simp only [Act.put, sAx, sZx, sSx]
            refine wpAnyH_take (i := 9) (oi := ?ois49) (v := ?vs49) ?his49 (by kernel_rfl) (by kernel_rfl) (by kernel_rfl) ?hQs49 ?hys49 hHeld ?hs49
            case his49 => (simp only [gAx, gSx, gZx]; rfl)
            case hQs49 => exact fun _ _ _ h => h
            case hys49 => exact Or.inl ⟨by rfl, by intro w_ hSw; (try dsimp only at hSw); first | (go_simp; done) | (go_simp; with_reducible rfl)⟩
            try simp only [Act.put, sAx, sZx, sSx]
            refine wpAnyH_take (i := 10) (oi := ?ois410) (v := ?vs410) ?his410 (by kernel_rfl) (by kernel_rfl) (by kernel_rfl) ?hQs410 ?hys410 hHeld ?hs410
            case his410 => (simp only [gAx, gSx, gZx]; rfl)
            case hQs410 => exact fun _ _ _ h => h
            case hys410 => exact Or.inl ⟨by rfl, by intro w_ hSw; (try dsimp only at hSw); first | (go_simp; done) | (go_simp; with_reducible rfl)⟩
            try simp only [Act.put, sAx, sZx, sSx]
            refine wpAnyH_take (i := 11) (oi := ?ois411) (v := ?vs411) ?his411 (by kernel_rfl) (by kernel_rfl) (by kernel_rfl) ?hQs411 ?hys411 hHeld ?hs411
            case his411 => (simp only [gAx, gSx, gZx]; rfl)
            case hQs411 => exact fun _ _ _ h => h
            case hys411 => exact Or.inl ⟨by rfl, by intro w_ hSw; (try dsimp only at hSw); first | (go_simp; done) | (go_simp; with_reducible rfl)⟩
            try simp only [Act.put, sAx, sZx, sSx]
            refine wpAnyH_take (i := 12) (oi := ?ois412) (v := ?vs412) ?his412 (by kernel_rfl) (by kernel_rfl) (by kernel_rfl) ?hQs412 ?hys412 hHeld ?hs412
            case his412 => (simp only [gAx, gSx, gZx]; rfl)
            case hQs412 => exact fun _ _ _ h => h
            case hys412 => exact Or.inl ⟨by rfl, by intro w_ hSw; (try dsimp only at hSw); first | (go_simp; done) | (go_simp; with_reducible rfl)⟩
            try simp only [Act.put, sAx, sZx, sSx]
            refine wpAnyH_ready (rs := [13]) (by kernel_rfl) (by simp) ?_
            refine AllReadyH.cons (o := ?ocs413) ?hcs413 (fun K hK => ?hks413) AllReadyH.nil
            case hcs413 => (simp only [gAx, gSx, gZx]; rfl)
            go_simp
            go_at_call 30
            refine (impl_isOrder.calls k A8 c8 al _ _ (C_of_same HO10.out (fun k_ h1_ h2_ => hHeld.2.2.2.2 k_ (by have := HSZ.out; omega) h2_)) HL10.out HT.out).mono ?_
            rintro e w_9 ⟨rfl, hd⟩
            have hb9 := Drawn0.below hd
            clear hd
            try dsimp only
            refine hK.out _ _ ⟨(hb9.block _ (lt_of_block (hHeld.1))).trans (hHeld.1), ⟨hHeld.2.1.choose, (hb9.block _ (lt_of_block (hHeld.2.1.choose_spec.1))).trans (hHeld.2.1.choose_spec.1), hHeld.2.1.choose_spec.2⟩, below_step hHeld.2.2.1 hb9, Nat.le_trans hHeld.2.2.2.1 hb9.size, fun k_ h1_ h2_ => (hb9.block k_ (Nat.lt_of_lt_of_le h2_ hHeld.2.2.2.1)).trans (hHeld.2.2.2.2 k_ h1_ h2_)⟩ (fun hHeld => ?_)
            clear hK K
            try simp only [Act.put, sAx, sZx, sSx]
            refine wpAnyH_take (i := 14) (oi := ?ois414) (v := ?vs414) ?his414 (by kernel_rfl) (by kernel_rfl) (by kernel_rfl) ?hQs414 ?hys414 hHeld ?hs414
            case his414 => (simp only [gAx, gSx, gZx]; rfl)
            case hQs414 => exact fun _ _ _ h => h
            case hys414 => exact Or.inl ⟨by rfl, by intro w_ hSw; (try dsimp only at hSw); first | (go_simp; done) | (go_simp; with_reducible rfl)⟩
            try simp only [Act.put, sAx, sZx, sSx]
            refine wpAnyH_take (i := 15) (oi := ?ois415) (v := ?vs415) ?his415 (by kernel_rfl) (by kernel_rfl) (by kernel_rfl) ?hQs415 ?hys415 hHeld ?hs415
            case his415 => (simp only [gAx, gSx, gZx]; rfl)
            case hQs415 => exact fun _ _ _ h => h
            case hys415 => exact Or.inl ⟨by rfl, by intro w_ hSw; (try dsimp only at hSw); first | (go_simp; done) | (go_simp; with_reducible rfl)⟩
            try simp only [Act.put, sAx, sZx, sSx]
            refine wpAnyH_take (i := 16) (oi := ?ois416) (v := ?vs416) ?his416 (by kernel_rfl) (by kernel_rfl) (by kernel_rfl) ?hQs416 ?hys416 hHeld ?hs416
            case his416 => (simp only [gAx, gSx, gZx]; rfl)
            case hQs416 => exact fun _ _ _ h => h
            case hys416 => exact Or.inl ⟨by rfl, by intro w_ hSw; (try dsimp only at hSw); first | (go_simp; done) | (go_simp; with_reducible rfl)⟩
            try simp only [Act.put, sAx, sZx, sSx]
            refine wpAnyH_take (i := 17) (oi := ?ois417) (v := (.int .i64 cn)) ?his417 (by kernel_rfl) (by kernel_rfl) (by kernel_rfl) ?hQs417 ?hys417 hHeld ?hs417
            case his417 => (simp only [gAx, gSx, gZx]; rfl)
            case hQs417 => exact fun _ _ _ h => h
            case hys417 => exact Or.inl ⟨by rfl, by intro w_ hSw; have h_ := y22_3 hSw.1; first | (go_simp; done) | (go_simp; with_reducible rfl)⟩
            try simp only [Act.put, sAx, sZx, sSx]
            refine wpAnyH_take (i := 18) (oi := ?ois418) (v := ?vs418) ?his418 (by kernel_rfl) (by kernel_rfl) (by kernel_rfl) ?hQs418 ?hys418 hHeld ?hs418
            case his418 => (simp only [gAx, gSx, gZx]; rfl)
            case hQs418 => exact fun _ _ _ h => h
            case hys418 => exact Or.inl ⟨by rfl, by intro w_ hSw; (try dsimp only at hSw); first | (go_simp; done) | (go_simp; with_reducible rfl)⟩
            try simp only [Act.put, sAx, sZx, sSx]
            refine wpAnyH_take (i := 19) (oi := ?ois419) (v := ?vs419) ?his419 (by kernel_rfl) (by kernel_rfl) (by kernel_rfl) ?hQs419 ?hys419 hHeld ?hs419
            case his419 => (simp only [gAx, gSx, gZx]; rfl)
            case hQs419 => exact fun _ _ _ h => h
            case hys419 => exact Or.inl ⟨by rfl, by intro w_ hSw; (try dsimp only at hSw); first | (go_simp; done) | (go_simp; with_reducible rfl)⟩
            try simp only [Act.put, sAx, sZx, sSx]
            refine wpAnyH_take (i := 20) (oi := ?ois420) (v := ?vs420) ?his420 (by kernel_rfl) (by kernel_rfl) (by kernel_rfl) ?hQs420 ?hys420 hHeld ?hs420
            case his420 => (simp only [gAx, gSx, gZx]; rfl)
            case hQs420 => exact fun _ _ _ h => h
            case hys420 => exact Or.inl ⟨by rfl, by intro w_ hSw; (try dsimp only at hSw); first | (go_simp; done) | (go_simp; with_reducible rfl)⟩
            try simp only [Act.put, sAx, sZx, sSx]
            refine wpAnyH_take (i := 21) (oi := ?ois421) (v := undef) ?his421 (by kernel_rfl) (by kernel_rfl) (by kernel_rfl) ?hQs421 ?hys421 hHeld ?hs421
            case his421 => (simp only [gAx, gSx, gZx]; rfl)
            case hQs421 => exact fun _ _ _ h => h
            case hys421 => exact Or.inr ⟨by rfl, rfl⟩
            try simp only [Act.put, sAx, sZx, sSx]
            refine wpAnyH_take (i := 22) (oi := ?ois422) (v := undef) ?his422 (by kernel_rfl) (by kernel_rfl) (by kernel_rfl) ?hQs422 ?hys422 hHeld ?hs422
            case his422 => (simp only [gAx, gSx, gZx]; rfl)
            case hQs422 => exact fun _ _ _ h => h
            case hys422 => exact Or.inr ⟨by rfl, rfl⟩
            try simp only [Act.put, sAx, sZx, sSx]
            refine wpAnyH_take (i := 23) (oi := ?ois423) (v := undef) ?his423 (by kernel_rfl) (by kernel_rfl) (by kernel_rfl) ?hQs423 ?hys423 hHeld ?hs423
            case his423 => (simp only [gAx, gSx, gZx]; rfl)
            case hQs423 => exact fun _ _ _ h => h
            case hys423 => exact Or.inr ⟨by rfl, rfl⟩
            try simp only [Act.put, sAx, sZx, sSx]
            refine wpAnyH_take (i := 24) (oi := ?ois424) (v := ?vs424) ?his424 (by kernel_rfl) (by kernel_rfl) (by kernel_rfl) ?hQs424 ?hys424 hHeld ?hs424
            case his424 => (simp only [gAx, gSx, gZx]; rfl)
            case hQs424 => exact fun _ _ _ h => h
            case hys424 => exact Or.inl ⟨by rfl, by intro w_ hSw; (try dsimp only at hSw); first | (go_simp; done) | (go_simp; with_reducible rfl)⟩
            try simp only [Act.put, sAx, sZx, sSx]
            refine wpAnyH_ready (rs := [25]) (by kernel_rfl) (by simp) ?_
            refine AllReadyH.cons (o := ?ocs425) ?hcs425 (fun K hK => ?hks425) AllReadyH.nil
            case hcs425 => (simp only [gAx, gSx, gZx]; rfl)
            obtain ⟨old, hold, hsz⟩ := hHeld.2.1
            rw [if_pos (by rfl)]
            refine wp_store_row 53 (.tmp 2) (.tmp 37) rfl (w.heap.size + 1) #[.slice A0 (tw p0).length c0, .slice A1 (tw p1).length c1, .slice A2 (tw p2).length c2] rfl rfl 53 old hold hi62 hsz (by kernel_rfl) ?_
            refine hK.out _ _ ⟨(setRow_other _ _ _ _ (by omega)).trans hHeld.1, ⟨#[.slice A0 (tw p0).length c0, .slice A1 (tw p1).length c1, .slice A2 (tw p2).length c2], setRow_heap _ _ _ _ _ _ hold, rfl⟩, below_row hHeld.2.2.1 (by omega) _, by rw [size_setRow]; exact hHeld.2.2.2.1, fun k_ h1_ h2_ => (setRow_other _ _ _ _ (by omega)).trans (hHeld.2.2.2.2 k_ h1_ h2_)⟩ (fun hHeld2 => ?_)
            have HEND := Aside0.mk (setRow_heap _ _ _ #[.slice A0 (tw p0).length c0, .slice A1 (tw p1).length c1, .slice A2 (tw p2).length c2] _ _ hold)
            have hbend := hHeld2.2.2.1
            clear hK K hold hsz
            replace hHeld := hHeld2
            try simp only [Act.put, sAx, sZx, sSx]
            refine wpAnyH_take (i := 26) (oi := ?ois426) (v := ?vs426) ?his426 (by kernel_rfl) (by kernel_rfl) (by kernel_rfl) ?hQs426 ?hys426 hHeld ?hs426
            case his426 => (simp only [gAx, gSx, gZx]; rfl)
            case hQs426 => exact fun _ _ _ h => h
            case hys426 => exact Or.inl ⟨by rfl, by intro w_ hSw; (try dsimp only at hSw); first | (go_simp; done) | (go_simp; with_reducible rfl)⟩
            try simp only [Act.put, sAx, sZx, sSx]
            refine wpAnyH_done (by kernel_rfl) ?_ _
            go_wp2
            refine bodyPost_ret (v := .tuple #[.agg #[.slice A0 (tw p0).length c0, .slice A1 (tw p1).length c1, .slice A2 (tw p2).length c2], .bool false]) ?_ rfl ?_
            · exact results_list (rs := [.cell 2 53, .tmp 3]) rfl (by simp) (.cell (w.heap.size + 1) 53 #[.slice A0 (tw p0).length c0, .slice A1 (tw p1).length c1, .slice A2 (tw p2).length c2] (0, 0) _ rfl HEND.out hu62 rfl (by kernel_rfl) (.tmp .nil))
            · exact ⟨A0, c0, A1, c1, A2, c2, w6.heap.size, w7.heap.size, rfl, HS12.out, Kd.R_mono (Kd.R_move (Kd.R_bound T0.out) (fun k_ hk => hHeld.2.2.2.2 k_ (by have h1_ := hk.1.1; have h2_ := HS67.out; have h3_ := HS7.out; omega) hk.2.2.1)) (fun k_ hk => (by have h1_ := hk.1; omega)), Kd.R_mono (Kd.R_move (Kd.R_bound T1.out) (fun k_ hk => hHeld.2.2.2.2 k_ (by have h1_ := hk.1.1; have h2_ := HS67.out; have h3_ := HS7.out; omega) hk.2.2.1)) (fun k_ hk => (by have h1_ := hk.1; omega)), Kd.R_mono (Kd.R_move (Kd.R_bound T2.out) (fun k_ hk => hHeld.2.2.2.2 k_ (by have h1_ := hk.1.1; have h2_ := HS67.out; have h3_ := HS7.out; omega) hk.2.2.1)) (fun k_ hk => (by have h1_ := hk.1; omega)), hbend⟩
          | true =>
            obtain rfl : r = decide (cn ≤ 1000) := by rw [← HRR.out, z0, z1, z2, d0]; rfl
            refine wp_region_held_drew (S := (fun W => W.heap[w.heap.size]? = some (.cells (arr (y22 p0 p1 p2 cn)) 31 (0, 0)) ∧ (∃ old : Array Value, W.heap[w.heap.size + 1]? = some (.cells old 53 (0, 0)) ∧ old.size = 3) ∧ Below w.heap.size w W ∧ w10.heap.size ≤ W.heap.size ∧ (∀ k_, w.heap.size + 2 ≤ k_ → k_ < w10.heap.size → W.heap[k_]? = w10.heap[k_]?))) (by kernel_rfl) ⟨Z10.out, ⟨_, Y10.out, rfl⟩, below_drew HBW.out, Nat.le_refl _, fun _ _ _ => rfl⟩ (fun hHeld => ?_)
            refine wpAnyH_take (i := 0) (oi := ?ois50) (v := ?vs50) ?his50 (by kernel_rfl) (by kernel_rfl) (by kernel_rfl) ?hQs50 ?hys50 hHeld ?hs50
            case his50 => (simp only [gAx, gSx, gZx]; rfl)
            case hQs50 => exact fun _ _ _ h => h
            case hys50 => exact Or.inl ⟨by rfl, by intro w_ hSw; (try dsimp only at hSw); first | (go_simp; done) | (go_simp; with_reducible rfl)⟩
            try simp only [Act.put, sAx, sZx, sSx]
            refine wpAnyH_take (i := 1) (oi := ?ois51) (v := ?vs51) ?his51 (by kernel_rfl) (by kernel_rfl) (by kernel_rfl) ?hQs51 ?hys51 hHeld ?hs51
            case his51 => (simp only [gAx, gSx, gZx]; rfl)
            case hQs51 => exact fun _ _ _ h => h
            case hys51 => exact Or.inl ⟨by rfl, by intro w_ hSw; (try dsimp only at hSw); first | (go_simp; done) | (go_simp; with_reducible rfl)⟩
            try simp only [Act.put, sAx, sZx, sSx]
            refine wpAnyH_take (i := 2) (oi := ?ois52) (v := ?vs52) ?his52 (by kernel_rfl) (by kernel_rfl) (by kernel_rfl) ?hQs52 ?hys52 hHeld ?hs52
            case his52 => (simp only [gAx, gSx, gZx]; rfl)
            case hQs52 => exact fun _ _ _ h => h
            case hys52 => exact Or.inl ⟨by rfl, by intro w_ hSw; (try dsimp only at hSw); first | (go_simp; done) | (go_simp; with_reducible rfl)⟩
            try simp only [Act.put, sAx, sZx, sSx]
            refine wpAnyH_take (i := 3) (oi := ?ois53) (v := ?vs53) ?his53 (by kernel_rfl) (by kernel_rfl) (by kernel_rfl) ?hQs53 ?hys53 hHeld ?hs53
            case his53 => (simp only [gAx, gSx, gZx]; rfl)
            case hQs53 => exact fun _ _ _ h => h
            case hys53 => exact Or.inl ⟨by rfl, by intro w_ hSw; (try dsimp only at hSw); first | (go_simp; done) | (go_simp; with_reducible rfl)⟩
            try simp only [Act.put, sAx, sZx, sSx]
            refine wpAnyH_take (i := 4) (oi := ?ois54) (v := ?vs54) ?his54 (by kernel_rfl) (by kernel_rfl) (by kernel_rfl) ?hQs54 ?hys54 hHeld ?hs54
            case his54 => (simp only [gAx, gSx, gZx]; rfl)
            case hQs54 => exact fun _ _ _ h => h
            case hys54 => exact Or.inl ⟨by rfl, by intro w_ hSw; (try dsimp only at hSw); first | (go_simp; done) | (go_simp; with_reducible rfl)⟩
            try simp only [Act.put, sAx, sZx, sSx]
            refine wpAnyH_take (i := 5) (oi := ?ois55) (v := ?vs55) ?his55 (by kernel_rfl) (by kernel_rfl) (by kernel_rfl) ?hQs55 ?hys55 hHeld ?hs55
            case his55 => (simp only [gAx, gSx, gZx]; rfl)
            case hQs55 => exact fun _ _ _ h => h
            case hys55 => exact Or.inl ⟨by rfl, by intro w_ hSw; (try dsimp only at hSw); first | (go_simp; done) | (go_simp; with_reducible rfl)⟩
            try simp only [Act.put, sAx, sZx, sSx]
            refine wpAnyH_take (i := 6) (oi := ?ois56) (v := ?vs56) ?his56 (by kernel_rfl) (by kernel_rfl) (by kernel_rfl) ?hQs56 ?hys56 hHeld ?hs56
            case his56 => (simp only [gAx, gSx, gZx]; rfl)
            case hQs56 => exact fun _ _ _ h => h
            case hys56 => exact Or.inl ⟨by rfl, by intro w_ hSw; (try dsimp only at hSw); first | (go_simp; done) | (go_simp; with_reducible rfl)⟩
            try simp only [Act.put, sAx, sZx, sSx]
            refine wpAnyH_take (i := 7) (oi := ?ois57) (v := ?vs57) ?his57 (by kernel_rfl) (by kernel_rfl) (by kernel_rfl) ?hQs57 ?hys57 hHeld ?hs57
            case his57 => (simp only [gAx, gSx, gZx]; rfl)
            case hQs57 => exact fun _ _ _ h => h
            case hys57 => exact Or.inl ⟨by rfl, by intro w_ hSw; (try dsimp only at hSw); first | (go_simp; done) | (go_simp; with_reducible rfl)⟩
            try simp only [Act.put, sAx, sZx, sSx]
            refine wpAnyH_take (i := 8) (oi := ?ois58) (v := ?vs58) ?his58 (by kernel_rfl) (by kernel_rfl) (by kernel_rfl) ?hQs58 ?hys58 hHeld ?hs58
            case his58 => (simp only [gAx, gSx, gZx]; rfl)
            case hQs58 => exact fun _ _ _ h => h
            case hys58 => exact Or.inl ⟨by rfl, by intro w_ hSw; (try dsimp only at hSw); first | (go_simp; done) | (go_simp; with_reducible rfl)⟩
            try simp only [Act.put, sAx, sZx, sSx]
            refine wpAnyH_take (i := 9) (oi := ?ois59) (v := ?vs59) ?his59 (by kernel_rfl) (by kernel_rfl) (by kernel_rfl) ?hQs59 ?hys59 hHeld ?hs59
            case his59 => (simp only [gAx, gSx, gZx]; rfl)
            case hQs59 => exact fun _ _ _ h => h
            case hys59 => exact Or.inl ⟨by rfl, by intro w_ hSw; (try dsimp only at hSw); first | (go_simp; done) | (go_simp; with_reducible rfl)⟩
            try simp only [Act.put, sAx, sZx, sSx]
            refine wpAnyH_take (i := 10) (oi := ?ois510) (v := ?vs510) ?his510 (by kernel_rfl) (by kernel_rfl) (by kernel_rfl) ?hQs510 ?hys510 hHeld ?hs510
            case his510 => (simp only [gAx, gSx, gZx]; rfl)
            case hQs510 => exact fun _ _ _ h => h
            case hys510 => exact Or.inl ⟨by rfl, by intro w_ hSw; (try dsimp only at hSw); first | (go_simp; done) | (go_simp; with_reducible rfl)⟩
            try simp only [Act.put, sAx, sZx, sSx]
            refine wpAnyH_take (i := 11) (oi := ?ois511) (v := ?vs511) ?his511 (by kernel_rfl) (by kernel_rfl) (by kernel_rfl) ?hQs511 ?hys511 hHeld ?hs511
            case his511 => (simp only [gAx, gSx, gZx]; rfl)
            case hQs511 => exact fun _ _ _ h => h
            case hys511 => exact Or.inl ⟨by rfl, by intro w_ hSw; (try dsimp only at hSw); first | (go_simp; done) | (go_simp; with_reducible rfl)⟩
            try simp only [Act.put, sAx, sZx, sSx]
            refine wpAnyH_take (i := 12) (oi := ?ois512) (v := ?vs512) ?his512 (by kernel_rfl) (by kernel_rfl) (by kernel_rfl) ?hQs512 ?hys512 hHeld ?hs512
            case his512 => (simp only [gAx, gSx, gZx]; rfl)
            case hQs512 => exact fun _ _ _ h => h
            case hys512 => exact Or.inl ⟨by rfl, by intro w_ hSw; (try dsimp only at hSw); first | (go_simp; done) | (go_simp; with_reducible rfl)⟩
            try simp only [Act.put, sAx, sZx, sSx]
            refine wpAnyH_ready (rs := [13]) (by kernel_rfl) (by simp) ?_
            refine AllReadyH.cons (o := ?ocs513) ?hcs513 (fun K hK => ?hks513) AllReadyH.nil
            case hcs513 => (simp only [gAx, gSx, gZx]; rfl)
            go_simp
            go_at_call 30
            refine (impl_isOrder.calls k A8 c8 al _ _ (C_of_same HO10.out (fun k_ h1_ h2_ => hHeld.2.2.2.2 k_ (by have := HSZ.out; omega) h2_)) HL10.out HT.out).mono ?_
            rintro e w_9 ⟨rfl, hd⟩
            have hb9 := Drawn0.below hd
            clear hd
            try dsimp only
            refine hK.out _ _ ⟨(hb9.block _ (lt_of_block (hHeld.1))).trans (hHeld.1), ⟨hHeld.2.1.choose, (hb9.block _ (lt_of_block (hHeld.2.1.choose_spec.1))).trans (hHeld.2.1.choose_spec.1), hHeld.2.1.choose_spec.2⟩, below_step hHeld.2.2.1 hb9, Nat.le_trans hHeld.2.2.2.1 hb9.size, fun k_ h1_ h2_ => (hb9.block k_ (Nat.lt_of_lt_of_le h2_ hHeld.2.2.2.1)).trans (hHeld.2.2.2.2 k_ h1_ h2_)⟩ (fun hHeld => ?_)
            clear hK K
            try simp only [Act.put, sAx, sZx, sSx]
            refine wpAnyH_take (i := 14) (oi := ?ois514) (v := ?vs514) ?his514 (by kernel_rfl) (by kernel_rfl) (by kernel_rfl) ?hQs514 ?hys514 hHeld ?hs514
            case his514 => (simp only [gAx, gSx, gZx]; rfl)
            case hQs514 => exact fun _ _ _ h => h
            case hys514 => exact Or.inl ⟨by rfl, by intro w_ hSw; (try dsimp only at hSw); first | (go_simp; done) | (go_simp; with_reducible rfl)⟩
            try simp only [Act.put, sAx, sZx, sSx]
            refine wpAnyH_take (i := 15) (oi := ?ois515) (v := ?vs515) ?his515 (by kernel_rfl) (by kernel_rfl) (by kernel_rfl) ?hQs515 ?hys515 hHeld ?hs515
            case his515 => (simp only [gAx, gSx, gZx]; rfl)
            case hQs515 => exact fun _ _ _ h => h
            case hys515 => exact Or.inl ⟨by rfl, by intro w_ hSw; (try dsimp only at hSw); first | (go_simp; done) | (go_simp; with_reducible rfl)⟩
            try simp only [Act.put, sAx, sZx, sSx]
            refine wpAnyH_take (i := 16) (oi := ?ois516) (v := ?vs516) ?his516 (by kernel_rfl) (by kernel_rfl) (by kernel_rfl) ?hQs516 ?hys516 hHeld ?hs516
            case his516 => (simp only [gAx, gSx, gZx]; rfl)
            case hQs516 => exact fun _ _ _ h => h
            case hys516 => exact Or.inl ⟨by rfl, by intro w_ hSw; (try dsimp only at hSw); first | (go_simp; done) | (go_simp; with_reducible rfl)⟩
            try simp only [Act.put, sAx, sZx, sSx]
            refine wpAnyH_take (i := 17) (oi := ?ois517) (v := (.int .i64 cn)) ?his517 (by kernel_rfl) (by kernel_rfl) (by kernel_rfl) ?hQs517 ?hys517 hHeld ?hs517
            case his517 => (simp only [gAx, gSx, gZx]; rfl)
            case hQs517 => exact fun _ _ _ h => h
            case hys517 => exact Or.inl ⟨by rfl, by intro w_ hSw; have h_ := y22_3 hSw.1; first | (go_simp; done) | (go_simp; with_reducible rfl)⟩
            try simp only [Act.put, sAx, sZx, sSx]
            refine wpAnyH_take (i := 18) (oi := ?ois518) (v := ?vs518) ?his518 (by kernel_rfl) (by kernel_rfl) (by kernel_rfl) ?hQs518 ?hys518 hHeld ?hs518
            case his518 => (simp only [gAx, gSx, gZx]; rfl)
            case hQs518 => exact fun _ _ _ h => h
            case hys518 => exact Or.inl ⟨by rfl, by intro w_ hSw; (try dsimp only at hSw); first | (go_simp; done) | (go_simp; with_reducible rfl)⟩
            try simp only [Act.put, sAx, sZx, sSx]
            refine wpAnyH_take (i := 19) (oi := ?ois519) (v := ?vs519) ?his519 (by kernel_rfl) (by kernel_rfl) (by kernel_rfl) ?hQs519 ?hys519 hHeld ?hs519
            case his519 => (simp only [gAx, gSx, gZx]; rfl)
            case hQs519 => exact fun _ _ _ h => h
            case hys519 => exact Or.inl ⟨by rfl, by intro w_ hSw; (try dsimp only at hSw); first | (go_simp; done) | (go_simp; with_reducible rfl)⟩
            try simp only [Act.put, sAx, sZx, sSx]
            refine wpAnyH_take (i := 20) (oi := ?ois520) (v := ?vs520) ?his520 (by kernel_rfl) (by kernel_rfl) (by kernel_rfl) ?hQs520 ?hys520 hHeld ?hs520
            case his520 => (simp only [gAx, gSx, gZx]; rfl)
            case hQs520 => exact fun _ _ _ h => h
            case hys520 => exact Or.inl ⟨by rfl, by intro w_ hSw; (try dsimp only at hSw); first | (go_simp; done) | (go_simp; with_reducible rfl)⟩
            try simp only [Act.put, sAx, sZx, sSx]
            refine wpAnyH_take (i := 21) (oi := ?ois521) (v := ?vs521) ?his521 (by kernel_rfl) (by kernel_rfl) (by kernel_rfl) ?hQs521 ?hys521 hHeld ?hs521
            case his521 => (simp only [gAx, gSx, gZx]; rfl)
            case hQs521 => exact fun _ _ _ h => h
            case hys521 => exact Or.inl ⟨by rfl, by intro w_ hSw; (try dsimp only at hSw); first | (go_simp; done) | (go_simp; with_reducible rfl)⟩
            try simp only [Act.put, sAx, sZx, sSx]
            refine wpAnyH_take (i := 22) (oi := ?ois522) (v := (.int .i64 cn)) ?his522 (by kernel_rfl) (by kernel_rfl) (by kernel_rfl) ?hQs522 ?hys522 hHeld ?hs522
            case his522 => (simp only [gAx, gSx, gZx]; rfl)
            case hQs522 => exact fun _ _ _ h => h
            case hys522 => exact Or.inl ⟨by rfl, by intro w_ hSw; have h_ := y22_3 hSw.1; first | (go_simp; done) | (go_simp; with_reducible rfl)⟩
            try simp only [Act.put, sAx, sZx, sSx]
            refine wpAnyH_take (i := 23) (oi := ?ois523) (v := ?vs523) ?his523 (by kernel_rfl) (by kernel_rfl) (by kernel_rfl) ?hQs523 ?hys523 hHeld ?hs523
            case his523 => (simp only [gAx, gSx, gZx]; rfl)
            case hQs523 => exact fun _ _ _ h => h
            case hys523 => exact Or.inl ⟨by rfl, by intro w_ hSw; (try dsimp only at hSw); first | (go_simp; done) | (go_simp; with_reducible rfl)⟩
            try simp only [Act.put, sAx, sZx, sSx]
            refine wpAnyH_take (i := 24) (oi := ?ois524) (v := ?vs524) ?his524 (by kernel_rfl) (by kernel_rfl) (by kernel_rfl) ?hQs524 ?hys524 hHeld ?hs524
            case his524 => (simp only [gAx, gSx, gZx]; rfl)
            case hQs524 => exact fun _ _ _ h => h
            case hys524 => exact Or.inl ⟨by rfl, by intro w_ hSw; (try dsimp only at hSw); first | (go_simp; done) | (go_simp; with_reducible rfl)⟩
            try simp only [Act.put, sAx, sZx, sSx]
            refine wpAnyH_ready (rs := [25]) (by kernel_rfl) (by simp) ?_
            refine AllReadyH.cons (o := ?ocs525) ?hcs525 (fun K hK => ?hks525) AllReadyH.nil
            case hcs525 => (simp only [gAx, gSx, gZx]; rfl)
            obtain ⟨old, hold, hsz⟩ := hHeld.2.1
            rw [if_pos (by rfl)]
            refine wp_store_row 53 (.tmp 2) (.tmp 37) rfl (w.heap.size + 1) #[.slice A0 (tw p0).length c0, .slice A1 (tw p1).length c1, .slice A2 (tw p2).length c2] rfl rfl 53 old hold hi62 hsz (by kernel_rfl) ?_
            refine hK.out _ _ ⟨(setRow_other _ _ _ _ (by omega)).trans hHeld.1, ⟨#[.slice A0 (tw p0).length c0, .slice A1 (tw p1).length c1, .slice A2 (tw p2).length c2], setRow_heap _ _ _ _ _ _ hold, rfl⟩, below_row hHeld.2.2.1 (by omega) _, by rw [size_setRow]; exact hHeld.2.2.2.1, fun k_ h1_ h2_ => (setRow_other _ _ _ _ (by omega)).trans (hHeld.2.2.2.2 k_ h1_ h2_)⟩ (fun hHeld2 => ?_)
            have HEND := Aside0.mk (setRow_heap _ _ _ #[.slice A0 (tw p0).length c0, .slice A1 (tw p1).length c1, .slice A2 (tw p2).length c2] _ _ hold)
            have hbend := hHeld2.2.2.1
            clear hK K hold hsz
            replace hHeld := hHeld2
            try simp only [Act.put, sAx, sZx, sSx]
            refine wpAnyH_take (i := 26) (oi := ?ois526) (v := ?vs526) ?his526 (by kernel_rfl) (by kernel_rfl) (by kernel_rfl) ?hQs526 ?hys526 hHeld ?hs526
            case his526 => (simp only [gAx, gSx, gZx]; rfl)
            case hQs526 => exact fun _ _ _ h => h
            case hys526 => exact Or.inl ⟨by rfl, by intro w_ hSw; (try dsimp only at hSw); first | (go_simp; done) | (go_simp; with_reducible rfl)⟩
            try simp only [Act.put, sAx, sZx, sSx]
            refine wpAnyH_done (by kernel_rfl) ?_ _
            go_wp2
            refine bodyPost_ret (v := .tuple #[.agg #[.slice A0 (tw p0).length c0, .slice A1 (tw p1).length c1, .slice A2 (tw p2).length c2], .bool (decide (cn ≤ 1000))]) ?_ rfl ?_
            · exact results_list (rs := [.cell 2 53, .tmp 3]) rfl (by simp) (.cell (w.heap.size + 1) 53 #[.slice A0 (tw p0).length c0, .slice A1 (tw p1).length c1, .slice A2 (tw p2).length c2] (0, 0) _ rfl HEND.out hu62 rfl (by kernel_rfl) (.tmp .nil))
            · exact ⟨A0, c0, A1, c1, A2, c2, w6.heap.size, w7.heap.size, rfl, HS12.out, Kd.R_mono (Kd.R_move (Kd.R_bound T0.out) (fun k_ hk => hHeld.2.2.2.2 k_ (by have h1_ := hk.1.1; have h2_ := HS67.out; have h3_ := HS7.out; omega) hk.2.2.1)) (fun k_ hk => (by have h1_ := hk.1; omega)), Kd.R_mono (Kd.R_move (Kd.R_bound T1.out) (fun k_ hk => hHeld.2.2.2.2 k_ (by have h1_ := hk.1.1; have h2_ := HS67.out; have h3_ := HS7.out; omega) hk.2.2.1)) (fun k_ hk => (by have h1_ := hk.1; omega)), Kd.R_mono (Kd.R_move (Kd.R_bound T2.out) (fun k_ hk => hHeld.2.2.2.2 k_ (by have h1_ := hk.1.1; have h2_ := HS67.out; have h3_ := HS7.out; omega) hk.2.2.1)) (fun k_ hk => (by have h1_ := hk.1; omega)), hbend⟩
theorem partsOf_walk (k : Nat) (p0 p1 p2 : Nat → Int) (cn : Int) (r : Bool) (w : World) (h : partsF k p0 p1 p2 cn = some r) :
    Calls Tryd.prog 22 #[.agg (arr (y22 p0 p1 p2 cn))] w fun e w' => ∃ v0_ : Value, e = .returned (.tuple #[v0_, .bool r]) ∧ (∃ cs_ : Array Value, v0_ = .agg cs_ ∧ cs_.size = 3 ∧ cs_.all (·.oneCell') = true) ∧ Below w.heap.size w w' := by
  refine (partsOf_rows k p0 p1 p2 cn r w h).mono ?_
  rintro e w' ⟨A0, c0, A1, c1, A2, c2, s1, s2, rfl, _, _, _, _, hb⟩
  exact ⟨_, rfl, ⟨_, rfl, rfl, by kernel_rfl⟩, hb⟩

end Go.Proofs.YtdeklpmmdakbeaaDoor.Xv
