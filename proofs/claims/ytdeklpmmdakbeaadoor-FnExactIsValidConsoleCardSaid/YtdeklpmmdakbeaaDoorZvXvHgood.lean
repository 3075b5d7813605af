/- Whether a yard is good: the reference. -/
import Derived.Test.YtdeklpmmdakbeaaDoorZvXv0
import Derived.Test.YtdeklpmmdakbeaaDoorZvXv2
import Derived.Test.YtdeklpmmdakbeaaDoorZvXvHarr7
import Derived.Test.YtdeklpmmdakbeaaDoorZvXvHpart
import Derived.OneCell
import Derived.Laws.StructEq
import Derived.Lib.SliceRun
import Derived.Shelf.Abstract
import Derived.Deep.RegionHeld3
import Derived.Outline
import Derived.BigQuiet
import Derived.Deep.QuietTactic
import Derived.RegionTactic
import Derived.BigRegion
namespace Go.Proofs.YtdeklpmmdakbeaaDoor.Xv
open Go.RowKit Go.Proofs.YtdeklpmmdakbeaaDoorW.PrintWords Go.Proofs.YtdeklpmmdakbeaaDoorW.PrintLast Go.Proofs.YtdeklpmmdakbeaaDoorW.PrintMore
attribute [local go_sem] max2_int min2_int max_two min_two max_three min_three max_four min_four
set_option linter.unusedVariables false
set_option linter.unusedSimpArgs false
/-- Two arrays of seven numbers, held against each other. -/
theorem eql7 (f g : Nat → Int) (W : World) : (binOp .eql 22 (.agg (arr (m7 f))) (.agg (arr (m7 g)))).run Tryd.prog W = .ok (.bool (decide (f 0 = g 0 ∧ f 1 = g 1 ∧ f 2 = g 2 ∧ f 3 = g 3 ∧ f 4 = g 4 ∧ f 5 = g 5 ∧ f 6 = g 6))) W := by
  have hu := Tryd.underlying22
  have hu3 := Tryd.underlying3
  have hs : ∀ w, (sizeOf 3).run Tryd.prog w = .ok 1 w := fun w => by kernel_rfl
  have hp : ∀ (h : Nat → Int) (k : Nat), k < 7 → ∀ w, (part 3 (arr (m7 h)) k).run Tryd.prog w = .ok (.int .i64 (h k)) w := fun h k hk w => by
    rcases seven hk with rfl | rfl | rfl | rfl | rfl | rfl | rfl <;> simp [part, isAgg, run_underlying hu3, arr, m7]
  have he : ∀ (a b : Int) w, (Op.equalIn 9999 3 (.int .i64 a) (.int .i64 b)).run Tryd.prog w = .ok (decide (a = b)) w := fun a b w => by
    rw [run_equalIn_int w 9998 3 .i64 .i64 a b hu3]
    rfl
  rw [run_eql_struct, Op.equalIn]
  simp only [Sem.run_bind, run_underlying hu, Result.andThen_ok, hs, Std.Legacy.Range.forIn_eq_forIn_range', Std.Legacy.Range.size]
  by_cases h0 : f 0 = g 0
  case neg => simp [List.range', hp, he, h0]
  by_cases h1 : f 1 = g 1
  case neg => simp [List.range', hp, he, h0, h1]
  by_cases h2 : f 2 = g 2
  case neg => simp [List.range', hp, he, h0, h1, h2]
  by_cases h3 : f 3 = g 3
  case neg => simp [List.range', hp, he, h0, h1, h2, h3]
  by_cases h4 : f 4 = g 4
  case neg => simp [List.range', hp, he, h0, h1, h2, h3, h4]
  by_cases h5 : f 5 = g 5
  case neg => simp [List.range', hp, he, h0, h1, h2, h3, h4, h5]
  by_cases h6 : f 6 = g 6
  case neg => simp [List.range', hp, he, h0, h1, h2, h3, h4, h5, h6]
  simp [List.range', hp, he, h0, h1, h2, h3, h4, h5, h6]
def eqB (p : Nat → Int) : Bool := decide (rd (tw p) (0 : Nat) = p 0 ∧ rd (tw p) (1 : Nat) = p 1 ∧ rd (tw p) (2 : Nat) = p 2 ∧ rd (tw p) (3 : Nat) = p 3 ∧ rd (tw p) (4 : Nat) = p 4 ∧ rd (tw p) (5 : Nat) = p 5 ∧ rd (tw p) (6 : Nat) = p 6)
theorem guard7 (x y : Operand) (a b : Array Value) (W : World) : (eqGuard .eql 22 x y (.agg a) (.agg b)).run Tryd.prog W = .ok () W := by
  unfold eqGuard
  simp only [Bool.not_true, Bool.false_eq_true, ↓reduceIte, Sem.run_bind, run_program, Result.andThen_ok]
  rw [show Tryd.prog.eqGuardType Tryd.prog.depth 22 = false from by kernel_rfl]
  rfl
section
variable {P : Program} {o : Oper} {a : Act} {W : World}
theorem execLoad {t : TypeId} {p : Operand} {addr v : Value} (ho : o.op = .load t p) (hx : a.eval p = addr) (hr : (Instr.loadAt t addr).run P W = .ok v W) : (execOp a.eval o).run P W = .ok (.value v) W := by
  unfold execOp
  simp only [ho, hx, Sem.run_bind, hr, Result.andThen_ok, Sem.run_pure]
theorem execEql {x y : Operand} {f g : Nat → Int} {u : TypeId} (ho : o.op = .binOp .eql 22 x y u) (hx : a.eval x = .agg (arr (m7 f))) (hy : a.eval y = .agg (arr (m7 g))) : (execOp a.eval o).run Tryd.prog W = .ok (.value (.bool (decide (f 0 = g 0 ∧ f 1 = g 1 ∧ f 2 = g 2 ∧ f 3 = g 3 ∧ f 4 = g 4 ∧ f 5 = g 5 ∧ f 6 = g 6)))) W := by
  unfold execOp
  simp only [ho, hx, hy, Sem.run_bind, guard7, eql7, Result.andThen_ok, Sem.run_pure]
theorem execEqB {x y : Operand} {p : Nat → Int} {u : TypeId} {b : Bool} (hb : eqB p = b) (ho : o.op = .binOp .eql 22 x y u) (hx : a.eval x = .agg (arr (m7 fun j => rd (tw p) (j : Int)))) (hy : a.eval y = .agg (arr (m7 p))) : (execOp a.eval o).run Tryd.prog W = .ok (.value (.bool b)) W := by
  subst hb
  exact execEql ho hx hy
theorem load7 {b off : Nat} {e : TypeId} {L R : List Int} {p : Nat → Int} (h : W.heap[b]? = some (.cells (arr (L ++ m7 p ++ R)) e (0, 0))) (hl : L.length = off) : (Instr.loadAt 22 (.pointer (some ⟨b, off, none⟩))).run Tryd.prog W = .ok (.agg (arr (m7 p))) W := by
  have hu := Tryd.underlying22
  have hlc : (loadCells ⟨b, off, none⟩ ((m7 p).map (Value.int .i64)).length).run Tryd.prog W = .ok ((m7 p).map (Value.int .i64)).toArray W := run_loadCells_list (P := Tryd.prog) (w := W) ⟨b, off, none⟩ ((m7 p).map (Value.int .i64)) (fun j v hv => by
    have hadd : (⟨b, off, none⟩ : Addr).add j = ⟨b, off + j, none⟩ := by unfold Addr.add; split <;> simp_all
    rw [hadd, blk_cell h]
    unfold arr
    rw [List.getElem?_toArray, List.map_append, List.map_append, List.append_assoc, List.getElem?_append_right (by rw [List.length_map]; omega), List.length_map, hl, Nat.add_sub_cancel_left]
    rw [List.getElem?_append_left (by rcases Nat.lt_or_ge j ((m7 p).map (Value.int .i64)).length with h_ | h_; exact h_; rw [List.getElem?_eq_none h_] at hv; cases hv)]
    exact hv)
  have hsz : (sizeOf 22).run Tryd.prog W = .ok 7 W := by kernel_rfl
  have hagg : (isAgg 22).run Tryd.prog W = .ok true W := by kernel_rfl
  simp only [Instr.loadAt, Instr.sureAddr, loadVar, Sem.run_bind, Sem.run_pure, Result.andThen_ok, hagg, hsz, ↓reduceIte]
  rw [show (7 : Nat) = ((m7 p).map (Value.int .i64)).length from rfl, hlc]
  rfl
end
/-- The twenty-two numbers of a yard. -/
def y22 (p0 p1 p2 : Nat → Int) (c : Int) : List Int := m7 p0 ++ m7 p1 ++ m7 p2 ++ [c]
theorem y22_0 (p0 p1 p2 : Nat → Int) (c : Int) : y22 p0 p1 p2 c = [] ++ m7 p0 ++ (m7 p1 ++ m7 p2 ++ [c]) := by simp [y22]
theorem y22_1 (p0 p1 p2 : Nat → Int) (c : Int) : y22 p0 p1 p2 c = m7 p0 ++ m7 p1 ++ (m7 p2 ++ [c]) := by simp [y22]
theorem y22_2 (p0 p1 p2 : Nat → Int) (c : Int) : y22 p0 p1 p2 c = (m7 p0 ++ m7 p1) ++ m7 p2 ++ [c] := by simp [y22]
theorem y22_3 {w : World} {b e : Nat} {p0 p1 p2 : Nat → Int} {c : Int} (h : w.heap[b]? = some (.cells (arr (y22 p0 p1 p2 c)) e (0, 0))) : w.cell? ⟨b, 21, none⟩ = some (.int .i64 c) := by rw [blk_cell h]; rfl
def allY (p0 p1 p2 : Nat → Int) : List Int := tw p0 ++ tw p1 ++ tw p2
theorem tw_len (p : Nat → Int) : (tw p).length ≤ 7 := by
  have : (tw p).length ≤ (m7 p).length := (List.takeWhile_sublist _).length_le
  exact this
/-- What the reference tells of a yard. -/
def goodF (k : Nat) (p0 p1 p2 : Nat → Int) (cn : Int) : Option Bool := (spec_l2Order.f k (allY p0 p1 p2)).bind fun t => some (t && eqB p0 && eqB p1 && eqB p2 && (decide (0 ≤ cn) && decide (cn ≤ 1000)))
set_option maxHeartbeats 16000000 in
set_option maxRecDepth 100000 in
theorem l12Good_walk (k : Nat) (p0 p1 p2 : Nat → Int) (cn : Int) (r : Bool) (w : World) (h : goodF k p0 p1 p2 cn = some r) :
    Calls Tryd.prog 9 #[.agg (arr (y22 p0 p1 p2 cn))] w fun e w' => e = .returned (.bool r) ∧ Below w.heap.size w w' := by
  obtain ⟨t, ht, h⟩ := Option.bind_eq_some_iff.1 h
  have HRR := Aside0.mk (Option.some.inj h)
  clear h
  have HT := Aside0.mk ht
  have z1 := blk_new w (.cells (arr (y22 p0 p1 p2 cn)) 31)
  obtain ⟨w1, hw1⟩ : ∃ w1, w1 = w.alloc (.cells (arr (y22 p0 p1 p2 cn)) 31) := ⟨_, rfl⟩
  have HB0 := Aside0.mk (show Below w.heap.size w w1 by rw [hw1]; exact below_alloc (Below.refl _ _) _)
  rw [← hw1] at z1
  have Z1 := Aside0.mk z1
  clear z1 ht
  go_enter Tryd.func9, Tryd.ntmps9
  go_upto_region 1 with fail
  rw [← hw1]
  clear hw1
  go_cut [3, 4, 5] from 7 to 15 (fun v3 v4 v5 wx => ∃ (A0 : Option Addr) (c0 : Nat) (A1 : Option Addr) (c1 : Nat) (A2 : Option Addr) (c2 : Nat), v3 = .slice A0 (tw p0).length c0 ∧ v4 = .slice A1 (tw p1).length c1 ∧ v5 = .slice A2 (tw p2).length c2 ∧ Aside0 (Kd.C (Kd.int .i64) wx A0 (tw p0).length (tw p0)) ∧ Aside0 ((tw p0).length ≤ c0) ∧ Aside0 (Kd.C (Kd.int .i64) wx A1 (tw p1).length (tw p1)) ∧ Aside0 ((tw p1).length ≤ c1) ∧ Aside0 (Kd.C (Kd.int .i64) wx A2 (tw p2).length (tw p2)) ∧ Aside0 ((tw p2).length ≤ c2) ∧ Aside0 (Below w1.heap.size w1 wx))
  case first =>
    refine wp_region_held_drew (S := (fun W => W.heap[w.heap.size]? = some (.cells (arr (y22 p0 p1 p2 cn)) 31 (0, 0)) ∧ Below w1.heap.size w1 W)) (by kernel_rfl) ⟨Z1.out, below_drew (Below.refl _ _)⟩ (fun hHeld => ?_)
    refine wpAnyH_take (i := 0) (oi := ?oia0) (v := ?va0) ?hia0 (by kernel_rfl) (by kernel_rfl) (by kernel_rfl) ?hQa0 ?hya0 hHeld ?ha0
    case hia0 => (simp only [gAx, gSx, gZx]; rfl)
    case hQa0 => exact fun _ _ _ h => h
    case hya0 => exact Or.inl ⟨by rfl, by intro w_ hSw; (try dsimp only at hSw); first | (go_simp; done) | (go_simp; with_reducible rfl)⟩
    try simp only [Act.put, sAx, sZx, sSx]
    refine wpAnyH_take (i := 1) (oi := ?oia1) (v := (.agg (arr (m7 p0)))) ?hia1 (by kernel_rfl) (by kernel_rfl) (by kernel_rfl) ?hQa1 ?hya1 hHeld ?ha1
    case hia1 => (simp only [gAx, gSx, gZx]; rfl)
    case hQa1 => exact fun _ _ _ h => h
    case hya1 => exact Or.inl ⟨by rfl, fun w_ hSw => execLoad (addr := .pointer (some ⟨w.heap.size, 0, none⟩)) (v := .agg (arr (m7 p0))) rfl rfl (load7 (by have h_ := hSw.1; rw [y22_0] at h_; exact h_) (by rfl))⟩
    try simp only [Act.put, sAx, sZx, sSx]
    refine wpAnyH_take (i := 3) (oi := ?oia3) (v := ?va3) ?hia3 (by kernel_rfl) (by kernel_rfl) (by kernel_rfl) ?hQa3 ?hya3 hHeld ?ha3
    case hia3 => (simp only [gAx, gSx, gZx]; rfl)
    case hQa3 => exact fun _ _ _ h => h
    case hya3 => exact Or.inl ⟨by rfl, by intro w_ hSw; (try dsimp only at hSw); first | (go_simp; done) | (go_simp; with_reducible rfl)⟩
    try simp only [Act.put, sAx, sZx, sSx]
    refine wpAnyH_take (i := 4) (oi := ?oia4) (v := (.agg (arr (m7 p1)))) ?hia4 (by kernel_rfl) (by kernel_rfl) (by kernel_rfl) ?hQa4 ?hya4 hHeld ?ha4
    case hia4 => (simp only [gAx, gSx, gZx]; rfl)
    case hQa4 => exact fun _ _ _ h => h
    case hya4 => exact Or.inl ⟨by rfl, fun w_ hSw => execLoad (addr := .pointer (some ⟨w.heap.size, 7, none⟩)) (v := .agg (arr (m7 p1))) rfl rfl (load7 (by have h_ := hSw.1; rw [y22_1] at h_; exact h_) (by rfl))⟩
    try simp only [Act.put, sAx, sZx, sSx]
    refine wpAnyH_take (i := 6) (oi := ?oia6) (v := ?va6) ?hia6 (by kernel_rfl) (by kernel_rfl) (by kernel_rfl) ?hQa6 ?hya6 hHeld ?ha6
    case hia6 => (simp only [gAx, gSx, gZx]; rfl)
    case hQa6 => exact fun _ _ _ h => h
    case hya6 => exact Or.inl ⟨by rfl, by intro w_ hSw; (try dsimp only at hSw); first | (go_simp; done) | (go_simp; with_reducible rfl)⟩
    try simp only [Act.put, sAx, sZx, sSx]
    refine wpAnyH_take (i := 7) (oi := ?oia7) (v := (.agg (arr (m7 p2)))) ?hia7 (by kernel_rfl) (by kernel_rfl) (by kernel_rfl) ?hQa7 ?hya7 hHeld ?ha7
    case hia7 => (simp only [gAx, gSx, gZx]; rfl)
    case hQa7 => exact fun _ _ _ h => h
    case hya7 => exact Or.inl ⟨by rfl, fun w_ hSw => execLoad (addr := .pointer (some ⟨w.heap.size, 14, none⟩)) (v := .agg (arr (m7 p2))) rfl rfl (load7 (by have h_ := hSw.1; rw [y22_2] at h_; exact h_) (by rfl))⟩
    try simp only [Act.put, sAx, sZx, sSx]
    refine wpAnyH_ready (rs := [2]) (by kernel_rfl) (by simp) ?_
    refine AllReadyH.cons (o := ?ocb2) ?hcb2 (fun K hK => ?hkb2) AllReadyH.nil
    case hcb2 => (simp only [gAx, gSx, gZx]; rfl)
    go_simp
    go_at_call 15
    refine (l12Part_walk p0 _).mono ?_
    rintro e w_0 ⟨v_0, rfl, ho, hb0⟩
    obtain ⟨A_0, c_0, e_0⟩ := Kd.R_slice ho
    subst e_0
    obtain ⟨_, hl0, hC0⟩ := Kd.R_reads' ho
    clear ho
    try dsimp only
    refine hK.out _ _ ⟨(hb0.block _ (lt_of_block (hHeld.1))).trans (hHeld.1), below_step (hHeld.2) hb0⟩ (fun hHeld => ?_)
    clear hK K
    try simp only [Act.put, sAx, sZx, sSx]
    refine wpAnyH_ready (rs := [5]) (by kernel_rfl) (by simp) ?_
    refine AllReadyH.cons (o := ?ocb5) ?hcb5 (fun K hK => ?hkb5) AllReadyH.nil
    case hcb5 => (simp only [gAx, gSx, gZx]; rfl)
    go_simp
    go_at_call 15
    refine (l12Part_walk p1 _).mono ?_
    rintro e w_1 ⟨v_1, rfl, ho, hb1⟩
    obtain ⟨A_1, c_1, e_1⟩ := Kd.R_slice ho
    subst e_1
    obtain ⟨_, hl1, hC1⟩ := Kd.R_reads' ho
    clear ho
    try dsimp only
    refine hK.out _ _ ⟨(hb1.block _ (lt_of_block (hHeld.1))).trans (hHeld.1), below_step (hHeld.2) hb1⟩ (fun hHeld => ?_)
    clear hK K
    try simp only [Act.put, sAx, sZx, sSx]
    refine wpAnyH_ready (rs := [8]) (by kernel_rfl) (by simp) ?_
    refine AllReadyH.cons (o := ?ocb8) ?hcb8 (fun K hK => ?hkb8) AllReadyH.nil
    case hcb8 => (simp only [gAx, gSx, gZx]; rfl)
    go_simp
    go_at_call 15
    refine (l12Part_walk p2 _).mono ?_
    rintro e w_2 ⟨v_2, rfl, ho, hb2⟩
    obtain ⟨A_2, c_2, e_2⟩ := Kd.R_slice ho
    subst e_2
    obtain ⟨_, hl2, hC2⟩ := Kd.R_reads' ho
    clear ho
    try dsimp only
    refine hK.out _ _ ⟨(hb2.block _ (lt_of_block (hHeld.1))).trans (hHeld.1), below_step (hHeld.2) hb2⟩ (fun hHeld => ?_)
    clear hK K
    try simp only [Act.put, sAx, sZx, sSx]
    refine wpAnyH_take (i := 9) (oi := ?oib9) (v := ?vb9) ?hib9 (by kernel_rfl) (by kernel_rfl) (by kernel_rfl) ?hQb9 ?hyb9 hHeld ?hb9
    case hib9 => (simp only [gAx, gSx, gZx]; rfl)
    case hQb9 => exact fun _ _ _ h => h
    case hyb9 => exact Or.inl ⟨by rfl, by intro w_ hSw; (try dsimp only at hSw); first | (go_simp; done) | (go_simp; with_reducible rfl)⟩
    try simp only [Act.put, sAx, sZx, sSx]
    refine wpAnyH_take (i := 10) (oi := ?oib10) (v := ?vb10) ?hib10 (by kernel_rfl) (by kernel_rfl) (by kernel_rfl) ?hQb10 ?hyb10 hHeld ?hb10
    case hib10 => (simp only [gAx, gSx, gZx]; rfl)
    case hQb10 => exact fun _ _ _ h => h
    case hyb10 => exact Or.inl ⟨by rfl, by intro w_ hSw; (try dsimp only at hSw); first | (go_simp; done) | (go_simp; with_reducible rfl)⟩
    try simp only [Act.put, sAx, sZx, sSx]
    refine wpAnyH_take (i := 11) (oi := ?oib11) (v := ?vb11) ?hib11 (by kernel_rfl) (by kernel_rfl) (by kernel_rfl) ?hQb11 ?hyb11 hHeld ?hb11
    case hib11 => (simp only [gAx, gSx, gZx]; rfl)
    case hQb11 => exact fun _ _ _ h => h
    case hyb11 => exact Or.inl ⟨by rfl, by intro w_ hSw; (try dsimp only at hSw); first | (go_simp; done) | (go_simp; with_reducible rfl)⟩
    try simp only [Act.put, sAx, sZx, sSx]
    refine wpAnyH_done (by kernel_rfl) ?_ _
    go_wp2_with (fail)
    go_meet
    case rel =>
      exact ⟨A_0, c_0, A_1, c_1, A_2, c_2, rfl, rfl, rfl, ⟨Kd.C_below (Kd.C_below hC0 hb1) hb2⟩, ⟨hl0⟩, ⟨Kd.C_below hC1 hb2⟩, ⟨hl1⟩, ⟨hC2⟩, ⟨hl2⟩, ⟨hHeld.2⟩⟩
  case rest =>
    obtain ⟨A0, c0, A1, c1, A2, c2, rfl, rfl, rfl, HC0, HL0, HC1, HL1, HC2, HL2, HBC⟩ := hcut
    have Zc := Aside0.mk ((HBC.out.block _ (lt_of_block Z1.out)).trans Z1.out)
    have HOWN := Aside0.mk (show spec_l1Own.f (tw p0) = some (tw p0) by unfold spec_l1Own.f; rw [Option.bind_some, if_pos (by have := tw_len p0; simp; omega)]; simp)
    have HLN := Aside0.mk (show (tw p0).length ≤ 7 ∧ (tw p1).length ≤ 7 ∧ (tw p2).length ≤ 7 from ⟨tw_len p0, tw_len p1, tw_len p2⟩)
    go_upto_region 3 with (first
      | (go_at_call 16; (refine (spec_l1Own.calls A0 c0 (tw p0) (tw p0) _ HC0.out HL0.out HOWN.out).mono ?_); rintro e w6 ⟨v6, rfl, ho, hb⟩; have HO6 := Aside0.mk ho; have HB6 := Aside0.mk hb; clear ho hb)
      | ((with_reducible refine gate_builtin (b := .append) (xs := #[.tmp 17, .tmp 18]) rfl ?_); at_builtin; refine Kd.R_append_rows (Kd.int .i64) (w0 := wc) wc.heap.size rfl (.tmp 17) (.tmp 18) 42 3 (.int .i64 0) 8 rfl Tryd.underlying42 info3 rfl (by decide) (by omega) v6 (tw p0) (tw p1) _ _ _ (fun _ => True) (fun _ => False) rfl rfl ?aO ?aR (fun _ _ h => h) (fun _ h => h.elim) ?aF ?aB ?aS ?aL ?_; (case aR => exact Kd.C_below HC1.out HB6.out); (case aB => exact HB6.out); (case aF => exact fun _ _ => trivial); (case aO => exact HO6.out); (case aS => exact HB6.out.size); (case aL => have := HLN.out; omega); intro v7 w7 ho7 hb7 hg hat; have HO7 := Aside0.mk ho7; have HB7 := Aside0.mk hb7; clear ho7 hb7 hg hat)
      | ((with_reducible refine gate_builtin (b := .append) (xs := #[.tmp 19, .tmp 20]) rfl ?_); at_builtin; refine Kd.R_append_rows (Kd.int .i64) (w0 := wc) wc.heap.size rfl (.tmp 19) (.tmp 20) 42 3 (.int .i64 0) 8 rfl Tryd.underlying42 info3 rfl (by decide) (by omega) v7 (tw p0 ++ tw p1) (tw p2) _ _ _ (fun _ => True) (fun _ => False) rfl rfl ?aO ?aR (fun _ _ h => h) (fun _ h => h.elim) ?aF ?aB ?aS ?aL ?_; (case aR => exact Kd.C_below HC2.out HB7.out); (case aB => exact HB7.out); (case aF => exact fun _ _ => trivial); (case aO => exact HO7.out); (case aS => exact HB7.out.size); (case aL => have := HLN.out; rw [List.length_append]; omega); intro v8 w8 ho8 hb8 hg hat; have HO8 := Aside0.mk ho8; have HB8 := Aside0.mk hb8; clear ho8 hb8 hg hat))
    obtain ⟨al, hal⟩ : ∃ al, al = allY p0 p1 p2 := ⟨_, rfl⟩
    have ho8 : Kd.R (Kd.int .i64) 3 w8 wc.heap.size (fun _ => True) v8 al := by rw [hal]; exact HO8.out
    rw [← hal] at HT
    obtain ⟨A8, c8, e8⟩ := Kd.R_slice ho8
    subst e8
    have HC8 := Aside0.mk (Kd.R_reads' ho8).2.2
    have HL8 := Aside0.mk (Kd.R_reads' ho8).2.1
    clear ho8 hal
    have D0 := Aside0.mk (Kd.C_below HC0.out HB8.out)
    have D1 := Aside0.mk (Kd.C_below HC1.out HB8.out)
    have D2 := Aside0.mk (Kd.C_below HC2.out HB8.out)
    have Z8 := Aside0.mk ((HB8.out.block _ (lt_of_block Zc.out)).trans Zc.out)
    have HBW := Aside0.mk (below_step (below_step HB0.out HBC.out) HB8.out)
    obtain ⟨b5, hb5⟩ : ∃ b5, b5 = (decide (0 ≤ cn) && decide (cn ≤ 1000)) := ⟨_, rfl⟩
    have HIN := Aside0.mk (show spec_l1In.f cn 0 1000 = some b5 by
      rw [hb5]
      unfold spec_l1In.f
      by_cases h : cn ≥ 0
      · rw [if_pos h, decide_eq_true (show 0 ≤ cn from h)]; rfl
      · rw [if_neg h, decide_eq_false (show ¬ 0 ≤ cn from h)]; rfl)
    rw [← hb5] at HRR
    clear hb5 HO6 HO7 HO8 HB6 HB7 HC0 HC1 HC2 Zc Z1
    change Aside0 ((t && eqB p0 && eqB p1 && eqB p2 && b5) = r) at HRR
    cases t with
    | false =>
      obtain rfl : r = false := by rw [← HRR.out]; rfl
      refine wp_region_held_drew (S := (fun W => W.heap[w.heap.size]? = some (.cells (arr (y22 p0 p1 p2 cn)) 31 (0, 0)) ∧ Below w8.heap.size w8 W)) (by kernel_rfl) ⟨Z8.out, below_drew (Below.refl _ _)⟩ (fun hHeld => ?_)
      refine wpAnyH_take (i := 0) (oi := ?oir00) (v := ?vr00) ?hir00 (by kernel_rfl) (by kernel_rfl) (by kernel_rfl) ?hQr00 ?hyr00 hHeld ?hr00
      case hir00 => (simp only [gAx, gSx, gZx]; rfl)
      case hQr00 => exact fun _ _ _ h => h
      case hyr00 => exact Or.inl ⟨by rfl, by intro w_ hSw; (try dsimp only at hSw); first | (go_simp; done) | (go_simp; with_reducible rfl)⟩
      try simp only [Act.put, sAx, sZx, sSx]
      refine wpAnyH_ready (rs := [1]) (by kernel_rfl) (by simp) ?_
      refine AllReadyH.cons (o := ?ocr01) ?hcr01 (fun K hK => ?hkr01) AllReadyH.nil
      case hcr01 => (simp only [gAx, gSx, gZx]; rfl)
      go_simp
      go_at_call 17
      refine (spec_l2Order.calls k A8 c8 al _ _ (Kd.C_below HC8.out (hHeld.2)) HL8.out HT.out).mono ?_
      rintro e w_9 ⟨rfl, hd⟩
      have hb9 := Drawn0.below hd
      clear hd
      try dsimp only
      refine hK.out _ _ ⟨(hb9.block _ (lt_of_block (hHeld.1))).trans (hHeld.1), below_step (hHeld.2) hb9⟩ (fun hHeld => ?_)
      clear hK K
      try simp only [Act.put, sAx, sZx, sSx]
      refine wpAnyH_take (i := 2) (oi := ?oir02) (v := ?vr02) ?hir02 (by kernel_rfl) (by kernel_rfl) (by kernel_rfl) ?hQr02 ?hyr02 hHeld ?hr02
      case hir02 => (simp only [gAx, gSx, gZx]; rfl)
      case hQr02 => exact fun _ _ _ h => h
      case hyr02 => exact Or.inl ⟨by rfl, by intro w_ hSw; (try dsimp only at hSw); first | (go_simp; done) | (go_simp; with_reducible rfl)⟩
      try simp only [Act.put, sAx, sZx, sSx]
      refine wpAnyH_take (i := 3) (oi := ?oir03) (v := undef) ?hir03 (by kernel_rfl) (by kernel_rfl) (by kernel_rfl) ?hQr03 ?hyr03 hHeld ?hr03
      case hir03 => (simp only [gAx, gSx, gZx]; rfl)
      case hQr03 => exact fun _ _ _ h => h
      case hyr03 => exact Or.inr ⟨by rfl, rfl⟩
      try simp only [Act.put, sAx, sZx, sSx]
      refine wpAnyH_take (i := 4) (oi := ?oir04) (v := undef) ?hir04 (by kernel_rfl) (by kernel_rfl) (by kernel_rfl) ?hQr04 ?hyr04 hHeld ?hr04
      case hir04 => (simp only [gAx, gSx, gZx]; rfl)
      case hQr04 => exact fun _ _ _ h => h
      case hyr04 => exact Or.inr ⟨by rfl, rfl⟩
      try simp only [Act.put, sAx, sZx, sSx]
      refine wpAnyH_take (i := 5) (oi := ?oir05) (v := undef) ?hir05 (by kernel_rfl) (by kernel_rfl) (by kernel_rfl) ?hQr05 ?hyr05 hHeld ?hr05
      case hir05 => (simp only [gAx, gSx, gZx]; rfl)
      case hQr05 => exact fun _ _ _ h => h
      case hyr05 => exact Or.inr ⟨by rfl, rfl⟩
      try simp only [Act.put, sAx, sZx, sSx]
      refine wpAnyH_take (i := 6) (oi := ?oir06) (v := undef) ?hir06 (by kernel_rfl) (by kernel_rfl) (by kernel_rfl) ?hQr06 ?hyr06 hHeld ?hr06
      case hir06 => (simp only [gAx, gSx, gZx]; rfl)
      case hQr06 => exact fun _ _ _ h => h
      case hyr06 => exact Or.inr ⟨by rfl, rfl⟩
      try simp only [Act.put, sAx, sZx, sSx]
      refine wpAnyH_take (i := 7) (oi := ?oir07) (v := undef) ?hir07 (by kernel_rfl) (by kernel_rfl) (by kernel_rfl) ?hQr07 ?hyr07 hHeld ?hr07
      case hir07 => (simp only [gAx, gSx, gZx]; rfl)
      case hQr07 => exact fun _ _ _ h => h
      case hyr07 => exact Or.inr ⟨by rfl, rfl⟩
      try simp only [Act.put, sAx, sZx, sSx]
      refine wpAnyH_take (i := 8) (oi := ?oir08) (v := ?vr08) ?hir08 (by kernel_rfl) (by kernel_rfl) (by kernel_rfl) ?hQr08 ?hyr08 hHeld ?hr08
      case hir08 => (simp only [gAx, gSx, gZx]; rfl)
      case hQr08 => exact fun _ _ _ h => h
      case hyr08 => exact Or.inl ⟨by rfl, by intro w_ hSw; (try dsimp only at hSw); first | (go_simp; done) | (go_simp; with_reducible rfl)⟩
      try simp only [Act.put, sAx, sZx, sSx]
      refine wpAnyH_take (i := 9) (oi := ?oir09) (v := ?vr09) ?hir09 (by kernel_rfl) (by kernel_rfl) (by kernel_rfl) ?hQr09 ?hyr09 hHeld ?hr09
      case hir09 => (simp only [gAx, gSx, gZx]; rfl)
      case hQr09 => exact fun _ _ _ h => h
      case hyr09 => exact Or.inl ⟨by rfl, by intro w_ hSw; (try dsimp only at hSw); first | (go_simp; done) | (go_simp; with_reducible rfl)⟩
      try simp only [Act.put, sAx, sZx, sSx]
      refine wpAnyH_take (i := 10) (oi := ?oir010) (v := undef) ?hir010 (by kernel_rfl) (by kernel_rfl) (by kernel_rfl) ?hQr010 ?hyr010 hHeld ?hr010
      case hir010 => (simp only [gAx, gSx, gZx]; rfl)
      case hQr010 => exact fun _ _ _ h => h
      case hyr010 => exact Or.inr ⟨by rfl, rfl⟩
      try simp only [Act.put, sAx, sZx, sSx]
      refine wpAnyH_take (i := 11) (oi := ?oir011) (v := undef) ?hir011 (by kernel_rfl) (by kernel_rfl) (by kernel_rfl) ?hQr011 ?hyr011 hHeld ?hr011
      case hir011 => (simp only [gAx, gSx, gZx]; rfl)
      case hQr011 => exact fun _ _ _ h => h
      case hyr011 => exact Or.inr ⟨by rfl, rfl⟩
      try simp only [Act.put, sAx, sZx, sSx]
      refine wpAnyH_take (i := 12) (oi := ?oir012) (v := undef) ?hir012 (by kernel_rfl) (by kernel_rfl) (by kernel_rfl) ?hQr012 ?hyr012 hHeld ?hr012
      case hir012 => (simp only [gAx, gSx, gZx]; rfl)
      case hQr012 => exact fun _ _ _ h => h
      case hyr012 => exact Or.inr ⟨by rfl, rfl⟩
      try simp only [Act.put, sAx, sZx, sSx]
      refine wpAnyH_take (i := 13) (oi := ?oir013) (v := undef) ?hir013 (by kernel_rfl) (by kernel_rfl) (by kernel_rfl) ?hQr013 ?hyr013 hHeld ?hr013
      case hir013 => (simp only [gAx, gSx, gZx]; rfl)
      case hQr013 => exact fun _ _ _ h => h
      case hyr013 => exact Or.inr ⟨by rfl, rfl⟩
      try simp only [Act.put, sAx, sZx, sSx]
      refine wpAnyH_take (i := 14) (oi := ?oir014) (v := undef) ?hir014 (by kernel_rfl) (by kernel_rfl) (by kernel_rfl) ?hQr014 ?hyr014 hHeld ?hr014
      case hir014 => (simp only [gAx, gSx, gZx]; rfl)
      case hQr014 => exact fun _ _ _ h => h
      case hyr014 => exact Or.inr ⟨by rfl, rfl⟩
      try simp only [Act.put, sAx, sZx, sSx]
      refine wpAnyH_take (i := 15) (oi := ?oir015) (v := ?vr015) ?hir015 (by kernel_rfl) (by kernel_rfl) (by kernel_rfl) ?hQr015 ?hyr015 hHeld ?hr015
      case hir015 => (simp only [gAx, gSx, gZx]; rfl)
      case hQr015 => exact fun _ _ _ h => h
      case hyr015 => exact Or.inl ⟨by rfl, by intro w_ hSw; (try dsimp only at hSw); first | (go_simp; done) | (go_simp; with_reducible rfl)⟩
      try simp only [Act.put, sAx, sZx, sSx]
      refine wpAnyH_take (i := 16) (oi := ?oir016) (v := ?vr016) ?hir016 (by kernel_rfl) (by kernel_rfl) (by kernel_rfl) ?hQr016 ?hyr016 hHeld ?hr016
      case hir016 => (simp only [gAx, gSx, gZx]; rfl)
      case hQr016 => exact fun _ _ _ h => h
      case hyr016 => exact Or.inl ⟨by rfl, by intro w_ hSw; (try dsimp only at hSw); first | (go_simp; done) | (go_simp; with_reducible rfl)⟩
      try simp only [Act.put, sAx, sZx, sSx]
      refine wpAnyH_take (i := 17) (oi := ?oir017) (v := undef) ?hir017 (by kernel_rfl) (by kernel_rfl) (by kernel_rfl) ?hQr017 ?hyr017 hHeld ?hr017
      case hir017 => (simp only [gAx, gSx, gZx]; rfl)
      case hQr017 => exact fun _ _ _ h => h
      case hyr017 => exact Or.inr ⟨by rfl, rfl⟩
      try simp only [Act.put, sAx, sZx, sSx]
      refine wpAnyH_take (i := 18) (oi := ?oir018) (v := undef) ?hir018 (by kernel_rfl) (by kernel_rfl) (by kernel_rfl) ?hQr018 ?hyr018 hHeld ?hr018
      case hir018 => (simp only [gAx, gSx, gZx]; rfl)
      case hQr018 => exact fun _ _ _ h => h
      case hyr018 => exact Or.inr ⟨by rfl, rfl⟩
      try simp only [Act.put, sAx, sZx, sSx]
      refine wpAnyH_take (i := 19) (oi := ?oir019) (v := undef) ?hir019 (by kernel_rfl) (by kernel_rfl) (by kernel_rfl) ?hQr019 ?hyr019 hHeld ?hr019
      case hir019 => (simp only [gAx, gSx, gZx]; rfl)
      case hQr019 => exact fun _ _ _ h => h
      case hyr019 => exact Or.inr ⟨by rfl, rfl⟩
      try simp only [Act.put, sAx, sZx, sSx]
      refine wpAnyH_take (i := 20) (oi := ?oir020) (v := undef) ?hir020 (by kernel_rfl) (by kernel_rfl) (by kernel_rfl) ?hQr020 ?hyr020 hHeld ?hr020
      case hir020 => (simp only [gAx, gSx, gZx]; rfl)
      case hQr020 => exact fun _ _ _ h => h
      case hyr020 => exact Or.inr ⟨by rfl, rfl⟩
      try simp only [Act.put, sAx, sZx, sSx]
      refine wpAnyH_take (i := 21) (oi := ?oir021) (v := undef) ?hir021 (by kernel_rfl) (by kernel_rfl) (by kernel_rfl) ?hQr021 ?hyr021 hHeld ?hr021
      case hir021 => (simp only [gAx, gSx, gZx]; rfl)
      case hQr021 => exact fun _ _ _ h => h
      case hyr021 => exact Or.inr ⟨by rfl, rfl⟩
      try simp only [Act.put, sAx, sZx, sSx]
      refine wpAnyH_take (i := 22) (oi := ?oir022) (v := ?vr022) ?hir022 (by kernel_rfl) (by kernel_rfl) (by kernel_rfl) ?hQr022 ?hyr022 hHeld ?hr022
      case hir022 => (simp only [gAx, gSx, gZx]; rfl)
      case hQr022 => exact fun _ _ _ h => h
      case hyr022 => exact Or.inl ⟨by rfl, by intro w_ hSw; (try dsimp only at hSw); first | (go_simp; done) | (go_simp; with_reducible rfl)⟩
      try simp only [Act.put, sAx, sZx, sSx]
      refine wpAnyH_take (i := 23) (oi := ?oir023) (v := ?vr023) ?hir023 (by kernel_rfl) (by kernel_rfl) (by kernel_rfl) ?hQr023 ?hyr023 hHeld ?hr023
      case hir023 => (simp only [gAx, gSx, gZx]; rfl)
      case hQr023 => exact fun _ _ _ h => h
      case hyr023 => exact Or.inl ⟨by rfl, by intro w_ hSw; (try dsimp only at hSw); first | (go_simp; done) | (go_simp; with_reducible rfl)⟩
      try simp only [Act.put, sAx, sZx, sSx]
      refine wpAnyH_take (i := 24) (oi := ?oir024) (v := undef) ?hir024 (by kernel_rfl) (by kernel_rfl) (by kernel_rfl) ?hQr024 ?hyr024 hHeld ?hr024
      case hir024 => (simp only [gAx, gSx, gZx]; rfl)
      case hQr024 => exact fun _ _ _ h => h
      case hyr024 => exact Or.inr ⟨by rfl, rfl⟩
      try simp only [Act.put, sAx, sZx, sSx]
      refine wpAnyH_take (i := 25) (oi := ?oir025) (v := undef) ?hir025 (by kernel_rfl) (by kernel_rfl) (by kernel_rfl) ?hQr025 ?hyr025 hHeld ?hr025
      case hir025 => (simp only [gAx, gSx, gZx]; rfl)
      case hQr025 => exact fun _ _ _ h => h
      case hyr025 => exact Or.inr ⟨by rfl, rfl⟩
      try simp only [Act.put, sAx, sZx, sSx]
      refine wpAnyH_take (i := 26) (oi := ?oir026) (v := undef) ?hir026 (by kernel_rfl) (by kernel_rfl) (by kernel_rfl) ?hQr026 ?hyr026 hHeld ?hr026
      case hir026 => (simp only [gAx, gSx, gZx]; rfl)
      case hQr026 => exact fun _ _ _ h => h
      case hyr026 => exact Or.inr ⟨by rfl, rfl⟩
      try simp only [Act.put, sAx, sZx, sSx]
      refine wpAnyH_take (i := 27) (oi := ?oir027) (v := ?vr027) ?hir027 (by kernel_rfl) (by kernel_rfl) (by kernel_rfl) ?hQr027 ?hyr027 hHeld ?hr027
      case hir027 => (simp only [gAx, gSx, gZx]; rfl)
      case hQr027 => exact fun _ _ _ h => h
      case hyr027 => exact Or.inl ⟨by rfl, by intro w_ hSw; (try dsimp only at hSw); first | (go_simp; done) | (go_simp; with_reducible rfl)⟩
      try simp only [Act.put, sAx, sZx, sSx]
      refine wpAnyH_take (i := 28) (oi := ?oir028) (v := ?vr028) ?hir028 (by kernel_rfl) (by kernel_rfl) (by kernel_rfl) ?hQr028 ?hyr028 hHeld ?hr028
      case hir028 => (simp only [gAx, gSx, gZx]; rfl)
      case hQr028 => exact fun _ _ _ h => h
      case hyr028 => exact Or.inl ⟨by rfl, by intro w_ hSw; (try dsimp only at hSw); first | (go_simp; done) | (go_simp; with_reducible rfl)⟩
      try simp only [Act.put, sAx, sZx, sSx]
      refine wpAnyH_done (by kernel_rfl) ?_ _
      go_wp2
      go_ret
      exact ⟨rfl, below_step HBW.out (hHeld.2)⟩
    | true =>
      cases he0 : eqB p0 with
      | false =>
        have HE0 := Aside0.mk he0
        obtain rfl : r = false := by rw [← HRR.out, he0]; rfl
        clear he0
        refine wp_region_held_drew (S := (fun W => W.heap[w.heap.size]? = some (.cells (arr (y22 p0 p1 p2 cn)) 31 (0, 0)) ∧ Below w8.heap.size w8 W)) (by kernel_rfl) ⟨Z8.out, below_drew (Below.refl _ _)⟩ (fun hHeld => ?_)
        refine wpAnyH_take (i := 0) (oi := ?oir10) (v := ?vr10) ?hir10 (by kernel_rfl) (by kernel_rfl) (by kernel_rfl) ?hQr10 ?hyr10 hHeld ?hr10
        case hir10 => (simp only [gAx, gSx, gZx]; rfl)
        case hQr10 => exact fun _ _ _ h => h
        case hyr10 => exact Or.inl ⟨by rfl, by intro w_ hSw; (try dsimp only at hSw); first | (go_simp; done) | (go_simp; with_reducible rfl)⟩
        try simp only [Act.put, sAx, sZx, sSx]
        refine wpAnyH_ready (rs := [1]) (by kernel_rfl) (by simp) ?_
        refine AllReadyH.cons (o := ?ocr11) ?hcr11 (fun K hK => ?hkr11) AllReadyH.nil
        case hcr11 => (simp only [gAx, gSx, gZx]; rfl)
        go_simp
        go_at_call 17
        refine (spec_l2Order.calls k A8 c8 al _ _ (Kd.C_below HC8.out (hHeld.2)) HL8.out HT.out).mono ?_
        rintro e w_9 ⟨rfl, hd⟩
        have hb9 := Drawn0.below hd
        clear hd
        try dsimp only
        refine hK.out _ _ ⟨(hb9.block _ (lt_of_block (hHeld.1))).trans (hHeld.1), below_step (hHeld.2) hb9⟩ (fun hHeld => ?_)
        clear hK K
        try simp only [Act.put, sAx, sZx, sSx]
        refine wpAnyH_take (i := 2) (oi := ?oir12) (v := ?vr12) ?hir12 (by kernel_rfl) (by kernel_rfl) (by kernel_rfl) ?hQr12 ?hyr12 hHeld ?hr12
        case hir12 => (simp only [gAx, gSx, gZx]; rfl)
        case hQr12 => exact fun _ _ _ h => h
        case hyr12 => exact Or.inl ⟨by rfl, by intro w_ hSw; (try dsimp only at hSw); first | (go_simp; done) | (go_simp; with_reducible rfl)⟩
        try simp only [Act.put, sAx, sZx, sSx]
        refine wpAnyH_take (i := 3) (oi := ?oir13) (v := ?vr13) ?hir13 (by kernel_rfl) (by kernel_rfl) (by kernel_rfl) ?hQr13 ?hyr13 hHeld ?hr13
        case hir13 => (simp only [gAx, gSx, gZx]; rfl)
        case hQr13 => exact fun _ _ _ h => h
        case hyr13 => exact Or.inl ⟨by rfl, by intro w_ hSw; (try dsimp only at hSw); first | (go_simp; done) | (go_simp; with_reducible rfl)⟩
        try simp only [Act.put, sAx, sZx, sSx]
        refine wpAnyH_take (i := 5) (oi := ?oir15) (v := ?vr15) ?hir15 (by kernel_rfl) (by kernel_rfl) (by kernel_rfl) ?hQr15 ?hyr15 hHeld ?hr15
        case hir15 => (simp only [gAx, gSx, gZx]; rfl)
        case hQr15 => exact fun _ _ _ h => h
        case hyr15 => exact Or.inl ⟨by rfl, by intro w_ hSw; (try dsimp only at hSw); first | (go_simp; done) | (go_simp; with_reducible rfl)⟩
        try simp only [Act.put, sAx, sZx, sSx]
        refine wpAnyH_take (i := 6) (oi := ?oir16) (v := (.agg (arr (m7 p0)))) ?hir16 (by kernel_rfl) (by kernel_rfl) (by kernel_rfl) ?hQr16 ?hyr16 hHeld ?hr16
        case hir16 => (simp only [gAx, gSx, gZx]; rfl)
        case hQr16 => exact fun _ _ _ h => h
        case hyr16 => exact Or.inl ⟨by rfl, fun w_ hSw => execLoad (addr := .pointer (some ⟨w.heap.size, 0, none⟩)) (v := .agg (arr (m7 p0))) rfl rfl (load7 (by have h_ := hSw.1; rw [y22_0] at h_; exact h_) (by rfl))⟩
        try simp only [Act.put, sAx, sZx, sSx]
        refine wpAnyH_ready (rs := [4]) (by kernel_rfl) (by simp) ?_
        refine AllReadyH.cons (o := ?ocr14) ?hcr14 (fun K hK => ?hkr14) AllReadyH.nil
        case hcr14 => (simp only [gAx, gSx, gZx]; rfl)
        go_simp
        go_at_call 18
        refine (spec_l12Array_walk A0 c0 (tw p0) _ (Kd.C_below D0.out (hHeld.2)) HL0.out).mono ?_
        rintro e w_0 ⟨rfl, hb0⟩
        try dsimp only
        refine hK.out _ _ ⟨(hb0.block _ (lt_of_block (hHeld.1))).trans (hHeld.1), below_step (hHeld.2) hb0⟩ (fun hHeld => ?_)
        clear hK K
        try simp only [Act.put, sAx, sZx, sSx]
        refine wpAnyH_take (i := 7) (oi := ?oir17) (v := (.bool false)) ?hir17 (by kernel_rfl) (by kernel_rfl) (by kernel_rfl) ?hQr17 ?hyr17 hHeld ?hr17
        case hir17 => (simp only [gAx, gSx, gZx]; rfl)
        case hQr17 => exact fun _ _ _ h => h
        case hyr17 => exact Or.inl ⟨by rfl, fun w_ hSw => execEqB HE0.out rfl rfl rfl⟩
        try simp only [Act.put, sAx, sZx, sSx]
        refine wpAnyH_take (i := 8) (oi := ?oir18) (v := ?vr18) ?hir18 (by kernel_rfl) (by kernel_rfl) (by kernel_rfl) ?hQr18 ?hyr18 hHeld ?hr18
        case hir18 => (simp only [gAx, gSx, gZx]; rfl)
        case hQr18 => exact fun _ _ _ h => h
        case hyr18 => exact Or.inl ⟨by rfl, by intro w_ hSw; (try dsimp only at hSw); first | (go_simp; done) | (go_simp; with_reducible rfl)⟩
        try simp only [Act.put, sAx, sZx, sSx]
        refine wpAnyH_take (i := 9) (oi := ?oir19) (v := ?vr19) ?hir19 (by kernel_rfl) (by kernel_rfl) (by kernel_rfl) ?hQr19 ?hyr19 hHeld ?hr19
        case hir19 => (simp only [gAx, gSx, gZx]; rfl)
        case hQr19 => exact fun _ _ _ h => h
        case hyr19 => exact Or.inl ⟨by rfl, by intro w_ hSw; (try dsimp only at hSw); first | (go_simp; done) | (go_simp; with_reducible rfl)⟩
        try simp only [Act.put, sAx, sZx, sSx]
        refine wpAnyH_take (i := 10) (oi := ?oir110) (v := undef) ?hir110 (by kernel_rfl) (by kernel_rfl) (by kernel_rfl) ?hQr110 ?hyr110 hHeld ?hr110
        case hir110 => (simp only [gAx, gSx, gZx]; rfl)
        case hQr110 => exact fun _ _ _ h => h
        case hyr110 => exact Or.inr ⟨by rfl, rfl⟩
        try simp only [Act.put, sAx, sZx, sSx]
        refine wpAnyH_take (i := 11) (oi := ?oir111) (v := undef) ?hir111 (by kernel_rfl) (by kernel_rfl) (by kernel_rfl) ?hQr111 ?hyr111 hHeld ?hr111
        case hir111 => (simp only [gAx, gSx, gZx]; rfl)
        case hQr111 => exact fun _ _ _ h => h
        case hyr111 => exact Or.inr ⟨by rfl, rfl⟩
        try simp only [Act.put, sAx, sZx, sSx]
        refine wpAnyH_take (i := 12) (oi := ?oir112) (v := undef) ?hir112 (by kernel_rfl) (by kernel_rfl) (by kernel_rfl) ?hQr112 ?hyr112 hHeld ?hr112
        case hir112 => (simp only [gAx, gSx, gZx]; rfl)
        case hQr112 => exact fun _ _ _ h => h
        case hyr112 => exact Or.inr ⟨by rfl, rfl⟩
        try simp only [Act.put, sAx, sZx, sSx]
        refine wpAnyH_take (i := 13) (oi := ?oir113) (v := undef) ?hir113 (by kernel_rfl) (by kernel_rfl) (by kernel_rfl) ?hQr113 ?hyr113 hHeld ?hr113
        case hir113 => (simp only [gAx, gSx, gZx]; rfl)
        case hQr113 => exact fun _ _ _ h => h
        case hyr113 => exact Or.inr ⟨by rfl, rfl⟩
        try simp only [Act.put, sAx, sZx, sSx]
        refine wpAnyH_take (i := 14) (oi := ?oir114) (v := undef) ?hir114 (by kernel_rfl) (by kernel_rfl) (by kernel_rfl) ?hQr114 ?hyr114 hHeld ?hr114
        case hir114 => (simp only [gAx, gSx, gZx]; rfl)
        case hQr114 => exact fun _ _ _ h => h
        case hyr114 => exact Or.inr ⟨by rfl, rfl⟩
        try simp only [Act.put, sAx, sZx, sSx]
        refine wpAnyH_take (i := 15) (oi := ?oir115) (v := ?vr115) ?hir115 (by kernel_rfl) (by kernel_rfl) (by kernel_rfl) ?hQr115 ?hyr115 hHeld ?hr115
        case hir115 => (simp only [gAx, gSx, gZx]; rfl)
        case hQr115 => exact fun _ _ _ h => h
        case hyr115 => exact Or.inl ⟨by rfl, by intro w_ hSw; (try dsimp only at hSw); first | (go_simp; done) | (go_simp; with_reducible rfl)⟩
        try simp only [Act.put, sAx, sZx, sSx]
        refine wpAnyH_take (i := 16) (oi := ?oir116) (v := ?vr116) ?hir116 (by kernel_rfl) (by kernel_rfl) (by kernel_rfl) ?hQr116 ?hyr116 hHeld ?hr116
        case hir116 => (simp only [gAx, gSx, gZx]; rfl)
        case hQr116 => exact fun _ _ _ h => h
        case hyr116 => exact Or.inl ⟨by rfl, by intro w_ hSw; (try dsimp only at hSw); first | (go_simp; done) | (go_simp; with_reducible rfl)⟩
        try simp only [Act.put, sAx, sZx, sSx]
        refine wpAnyH_take (i := 17) (oi := ?oir117) (v := undef) ?hir117 (by kernel_rfl) (by kernel_rfl) (by kernel_rfl) ?hQr117 ?hyr117 hHeld ?hr117
        case hir117 => (simp only [gAx, gSx, gZx]; rfl)
        case hQr117 => exact fun _ _ _ h => h
        case hyr117 => exact Or.inr ⟨by rfl, rfl⟩
        try simp only [Act.put, sAx, sZx, sSx]
        refine wpAnyH_take (i := 18) (oi := ?oir118) (v := undef) ?hir118 (by kernel_rfl) (by kernel_rfl) (by kernel_rfl) ?hQr118 ?hyr118 hHeld ?hr118
        case hir118 => (simp only [gAx, gSx, gZx]; rfl)
        case hQr118 => exact fun _ _ _ h => h
        case hyr118 => exact Or.inr ⟨by rfl, rfl⟩
        try simp only [Act.put, sAx, sZx, sSx]
        refine wpAnyH_take (i := 19) (oi := ?oir119) (v := undef) ?hir119 (by kernel_rfl) (by kernel_rfl) (by kernel_rfl) ?hQr119 ?hyr119 hHeld ?hr119
        case hir119 => (simp only [gAx, gSx, gZx]; rfl)
        case hQr119 => exact fun _ _ _ h => h
        case hyr119 => exact Or.inr ⟨by rfl, rfl⟩
        try simp only [Act.put, sAx, sZx, sSx]
        refine wpAnyH_take (i := 20) (oi := ?oir120) (v := undef) ?hir120 (by kernel_rfl) (by kernel_rfl) (by kernel_rfl) ?hQr120 ?hyr120 hHeld ?hr120
        case hir120 => (simp only [gAx, gSx, gZx]; rfl)
        case hQr120 => exact fun _ _ _ h => h
        case hyr120 => exact Or.inr ⟨by rfl, rfl⟩
        try simp only [Act.put, sAx, sZx, sSx]
        refine wpAnyH_take (i := 21) (oi := ?oir121) (v := undef) ?hir121 (by kernel_rfl) (by kernel_rfl) (by kernel_rfl) ?hQr121 ?hyr121 hHeld ?hr121
        case hir121 => (simp only [gAx, gSx, gZx]; rfl)
        case hQr121 => exact fun _ _ _ h => h
        case hyr121 => exact Or.inr ⟨by rfl, rfl⟩
        try simp only [Act.put, sAx, sZx, sSx]
        refine wpAnyH_take (i := 22) (oi := ?oir122) (v := ?vr122) ?hir122 (by kernel_rfl) (by kernel_rfl) (by kernel_rfl) ?hQr122 ?hyr122 hHeld ?hr122
        case hir122 => (simp only [gAx, gSx, gZx]; rfl)
        case hQr122 => exact fun _ _ _ h => h
        case hyr122 => exact Or.inl ⟨by rfl, by intro w_ hSw; (try dsimp only at hSw); first | (go_simp; done) | (go_simp; with_reducible rfl)⟩
        try simp only [Act.put, sAx, sZx, sSx]
        refine wpAnyH_take (i := 23) (oi := ?oir123) (v := ?vr123) ?hir123 (by kernel_rfl) (by kernel_rfl) (by kernel_rfl) ?hQr123 ?hyr123 hHeld ?hr123
        case hir123 => (simp only [gAx, gSx, gZx]; rfl)
        case hQr123 => exact fun _ _ _ h => h
        case hyr123 => exact Or.inl ⟨by rfl, by intro w_ hSw; (try dsimp only at hSw); first | (go_simp; done) | (go_simp; with_reducible rfl)⟩
        try simp only [Act.put, sAx, sZx, sSx]
        refine wpAnyH_take (i := 24) (oi := ?oir124) (v := undef) ?hir124 (by kernel_rfl) (by kernel_rfl) (by kernel_rfl) ?hQr124 ?hyr124 hHeld ?hr124
        case hir124 => (simp only [gAx, gSx, gZx]; rfl)
        case hQr124 => exact fun _ _ _ h => h
        case hyr124 => exact Or.inr ⟨by rfl, rfl⟩
        try simp only [Act.put, sAx, sZx, sSx]
        refine wpAnyH_take (i := 25) (oi := ?oir125) (v := undef) ?hir125 (by kernel_rfl) (by kernel_rfl) (by kernel_rfl) ?hQr125 ?hyr125 hHeld ?hr125
        case hir125 => (simp only [gAx, gSx, gZx]; rfl)
        case hQr125 => exact fun _ _ _ h => h
        case hyr125 => exact Or.inr ⟨by rfl, rfl⟩
        try simp only [Act.put, sAx, sZx, sSx]
        refine wpAnyH_take (i := 26) (oi := ?oir126) (v := undef) ?hir126 (by kernel_rfl) (by kernel_rfl) (by kernel_rfl) ?hQr126 ?hyr126 hHeld ?hr126
        case hir126 => (simp only [gAx, gSx, gZx]; rfl)
        case hQr126 => exact fun _ _ _ h => h
        case hyr126 => exact Or.inr ⟨by rfl, rfl⟩
        try simp only [Act.put, sAx, sZx, sSx]
        refine wpAnyH_take (i := 27) (oi := ?oir127) (v := ?vr127) ?hir127 (by kernel_rfl) (by kernel_rfl) (by kernel_rfl) ?hQr127 ?hyr127 hHeld ?hr127
        case hir127 => (simp only [gAx, gSx, gZx]; rfl)
        case hQr127 => exact fun _ _ _ h => h
        case hyr127 => exact Or.inl ⟨by rfl, by intro w_ hSw; (try dsimp only at hSw); first | (go_simp; done) | (go_simp; with_reducible rfl)⟩
        try simp only [Act.put, sAx, sZx, sSx]
        refine wpAnyH_take (i := 28) (oi := ?oir128) (v := ?vr128) ?hir128 (by kernel_rfl) (by kernel_rfl) (by kernel_rfl) ?hQr128 ?hyr128 hHeld ?hr128
        case hir128 => (simp only [gAx, gSx, gZx]; rfl)
        case hQr128 => exact fun _ _ _ h => h
        case hyr128 => exact Or.inl ⟨by rfl, by intro w_ hSw; (try dsimp only at hSw); first | (go_simp; done) | (go_simp; with_reducible rfl)⟩
        try simp only [Act.put, sAx, sZx, sSx]
        refine wpAnyH_done (by kernel_rfl) ?_ _
        go_wp2
        go_ret
        exact ⟨rfl, below_step HBW.out (hHeld.2)⟩
      | true =>
        have HE0 := Aside0.mk he0
        cases he1 : eqB p1 with
        | false =>
          have HE1 := Aside0.mk he1
          obtain rfl : r = false := by rw [← HRR.out, he0, he1]; rfl
          clear he0 he1
          refine wp_region_held_drew (S := (fun W => W.heap[w.heap.size]? = some (.cells (arr (y22 p0 p1 p2 cn)) 31 (0, 0)) ∧ Below w8.heap.size w8 W)) (by kernel_rfl) ⟨Z8.out, below_drew (Below.refl _ _)⟩ (fun hHeld => ?_)
          refine wpAnyH_take (i := 0) (oi := ?oir20) (v := ?vr20) ?hir20 (by kernel_rfl) (by kernel_rfl) (by kernel_rfl) ?hQr20 ?hyr20 hHeld ?hr20
          case hir20 => (simp only [gAx, gSx, gZx]; rfl)
          case hQr20 => exact fun _ _ _ h => h
          case hyr20 => exact Or.inl ⟨by rfl, by intro w_ hSw; (try dsimp only at hSw); first | (go_simp; done) | (go_simp; with_reducible rfl)⟩
          try simp only [Act.put, sAx, sZx, sSx]
          refine wpAnyH_ready (rs := [1]) (by kernel_rfl) (by simp) ?_
          refine AllReadyH.cons (o := ?ocr21) ?hcr21 (fun K hK => ?hkr21) AllReadyH.nil
          case hcr21 => (simp only [gAx, gSx, gZx]; rfl)
          go_simp
          go_at_call 17
          refine (spec_l2Order.calls k A8 c8 al _ _ (Kd.C_below HC8.out (hHeld.2)) HL8.out HT.out).mono ?_
          rintro e w_9 ⟨rfl, hd⟩
          have hb9 := Drawn0.below hd
          clear hd
          try dsimp only
          refine hK.out _ _ ⟨(hb9.block _ (lt_of_block (hHeld.1))).trans (hHeld.1), below_step (hHeld.2) hb9⟩ (fun hHeld => ?_)
          clear hK K
          try simp only [Act.put, sAx, sZx, sSx]
          refine wpAnyH_take (i := 2) (oi := ?oir22) (v := ?vr22) ?hir22 (by kernel_rfl) (by kernel_rfl) (by kernel_rfl) ?hQr22 ?hyr22 hHeld ?hr22
          case hir22 => (simp only [gAx, gSx, gZx]; rfl)
          case hQr22 => exact fun _ _ _ h => h
          case hyr22 => exact Or.inl ⟨by rfl, by intro w_ hSw; (try dsimp only at hSw); first | (go_simp; done) | (go_simp; with_reducible rfl)⟩
          try simp only [Act.put, sAx, sZx, sSx]
          refine wpAnyH_take (i := 3) (oi := ?oir23) (v := ?vr23) ?hir23 (by kernel_rfl) (by kernel_rfl) (by kernel_rfl) ?hQr23 ?hyr23 hHeld ?hr23
          case hir23 => (simp only [gAx, gSx, gZx]; rfl)
          case hQr23 => exact fun _ _ _ h => h
          case hyr23 => exact Or.inl ⟨by rfl, by intro w_ hSw; (try dsimp only at hSw); first | (go_simp; done) | (go_simp; with_reducible rfl)⟩
          try simp only [Act.put, sAx, sZx, sSx]
          refine wpAnyH_take (i := 5) (oi := ?oir25) (v := ?vr25) ?hir25 (by kernel_rfl) (by kernel_rfl) (by kernel_rfl) ?hQr25 ?hyr25 hHeld ?hr25
          case hir25 => (simp only [gAx, gSx, gZx]; rfl)
          case hQr25 => exact fun _ _ _ h => h
          case hyr25 => exact Or.inl ⟨by rfl, by intro w_ hSw; (try dsimp only at hSw); first | (go_simp; done) | (go_simp; with_reducible rfl)⟩
          try simp only [Act.put, sAx, sZx, sSx]
          refine wpAnyH_take (i := 6) (oi := ?oir26) (v := (.agg (arr (m7 p0)))) ?hir26 (by kernel_rfl) (by kernel_rfl) (by kernel_rfl) ?hQr26 ?hyr26 hHeld ?hr26
          case hir26 => (simp only [gAx, gSx, gZx]; rfl)
          case hQr26 => exact fun _ _ _ h => h
          case hyr26 => exact Or.inl ⟨by rfl, fun w_ hSw => execLoad (addr := .pointer (some ⟨w.heap.size, 0, none⟩)) (v := .agg (arr (m7 p0))) rfl rfl (load7 (by have h_ := hSw.1; rw [y22_0] at h_; exact h_) (by rfl))⟩
          try simp only [Act.put, sAx, sZx, sSx]
          refine wpAnyH_ready (rs := [4]) (by kernel_rfl) (by simp) ?_
          refine AllReadyH.cons (o := ?ocr24) ?hcr24 (fun K hK => ?hkr24) AllReadyH.nil
          case hcr24 => (simp only [gAx, gSx, gZx]; rfl)
          go_simp
          go_at_call 18
          refine (spec_l12Array_walk A0 c0 (tw p0) _ (Kd.C_below D0.out (hHeld.2)) HL0.out).mono ?_
          rintro e w_0 ⟨rfl, hb0⟩
          try dsimp only
          refine hK.out _ _ ⟨(hb0.block _ (lt_of_block (hHeld.1))).trans (hHeld.1), below_step (hHeld.2) hb0⟩ (fun hHeld => ?_)
          clear hK K
          try simp only [Act.put, sAx, sZx, sSx]
          refine wpAnyH_take (i := 7) (oi := ?oir27) (v := (.bool true)) ?hir27 (by kernel_rfl) (by kernel_rfl) (by kernel_rfl) ?hQr27 ?hyr27 hHeld ?hr27
          case hir27 => (simp only [gAx, gSx, gZx]; rfl)
          case hQr27 => exact fun _ _ _ h => h
          case hyr27 => exact Or.inl ⟨by rfl, fun w_ hSw => execEqB HE0.out rfl rfl rfl⟩
          try simp only [Act.put, sAx, sZx, sSx]
          refine wpAnyH_take (i := 8) (oi := ?oir28) (v := ?vr28) ?hir28 (by kernel_rfl) (by kernel_rfl) (by kernel_rfl) ?hQr28 ?hyr28 hHeld ?hr28
          case hir28 => (simp only [gAx, gSx, gZx]; rfl)
          case hQr28 => exact fun _ _ _ h => h
          case hyr28 => exact Or.inl ⟨by rfl, by intro w_ hSw; (try dsimp only at hSw); first | (go_simp; done) | (go_simp; with_reducible rfl)⟩
          try simp only [Act.put, sAx, sZx, sSx]
          refine wpAnyH_take (i := 9) (oi := ?oir29) (v := ?vr29) ?hir29 (by kernel_rfl) (by kernel_rfl) (by kernel_rfl) ?hQr29 ?hyr29 hHeld ?hr29
          case hir29 => (simp only [gAx, gSx, gZx]; rfl)
          case hQr29 => exact fun _ _ _ h => h
          case hyr29 => exact Or.inl ⟨by rfl, by intro w_ hSw; (try dsimp only at hSw); first | (go_simp; done) | (go_simp; with_reducible rfl)⟩
          try simp only [Act.put, sAx, sZx, sSx]
          refine wpAnyH_take (i := 10) (oi := ?oir210) (v := ?vr210) ?hir210 (by kernel_rfl) (by kernel_rfl) (by kernel_rfl) ?hQr210 ?hyr210 hHeld ?hr210
          case hir210 => (simp only [gAx, gSx, gZx]; rfl)
          case hQr210 => exact fun _ _ _ h => h
          case hyr210 => exact Or.inl ⟨by rfl, by intro w_ hSw; (try dsimp only at hSw); first | (go_simp; done) | (go_simp; with_reducible rfl)⟩
          try simp only [Act.put, sAx, sZx, sSx]
          refine wpAnyH_take (i := 12) (oi := ?oir212) (v := ?vr212) ?hir212 (by kernel_rfl) (by kernel_rfl) (by kernel_rfl) ?hQr212 ?hyr212 hHeld ?hr212
          case hir212 => (simp only [gAx, gSx, gZx]; rfl)
          case hQr212 => exact fun _ _ _ h => h
          case hyr212 => exact Or.inl ⟨by rfl, by intro w_ hSw; (try dsimp only at hSw); first | (go_simp; done) | (go_simp; with_reducible rfl)⟩
          try simp only [Act.put, sAx, sZx, sSx]
          refine wpAnyH_take (i := 13) (oi := ?oir213) (v := (.agg (arr (m7 p1)))) ?hir213 (by kernel_rfl) (by kernel_rfl) (by kernel_rfl) ?hQr213 ?hyr213 hHeld ?hr213
          case hir213 => (simp only [gAx, gSx, gZx]; rfl)
          case hQr213 => exact fun _ _ _ h => h
          case hyr213 => exact Or.inl ⟨by rfl, fun w_ hSw => execLoad (addr := .pointer (some ⟨w.heap.size, 7, none⟩)) (v := .agg (arr (m7 p1))) rfl rfl (load7 (by have h_ := hSw.1; rw [y22_1] at h_; exact h_) (by rfl))⟩
          try simp only [Act.put, sAx, sZx, sSx]
          refine wpAnyH_ready (rs := [11]) (by kernel_rfl) (by simp) ?_
          refine AllReadyH.cons (o := ?ocr211) ?hcr211 (fun K hK => ?hkr211) AllReadyH.nil
          case hcr211 => (simp only [gAx, gSx, gZx]; rfl)
          go_simp
          go_at_call 18
          refine (spec_l12Array_walk A1 c1 (tw p1) _ (Kd.C_below D1.out (hHeld.2)) HL1.out).mono ?_
          rintro e w_1 ⟨rfl, hb1⟩
          try dsimp only
          refine hK.out _ _ ⟨(hb1.block _ (lt_of_block (hHeld.1))).trans (hHeld.1), below_step (hHeld.2) hb1⟩ (fun hHeld => ?_)
          clear hK K
          try simp only [Act.put, sAx, sZx, sSx]
          refine wpAnyH_take (i := 14) (oi := ?oir214) (v := (.bool false)) ?hir214 (by kernel_rfl) (by kernel_rfl) (by kernel_rfl) ?hQr214 ?hyr214 hHeld ?hr214
          case hir214 => (simp only [gAx, gSx, gZx]; rfl)
          case hQr214 => exact fun _ _ _ h => h
          case hyr214 => exact Or.inl ⟨by rfl, fun w_ hSw => execEqB HE1.out rfl rfl rfl⟩
          try simp only [Act.put, sAx, sZx, sSx]
          refine wpAnyH_take (i := 15) (oi := ?oir215) (v := ?vr215) ?hir215 (by kernel_rfl) (by kernel_rfl) (by kernel_rfl) ?hQr215 ?hyr215 hHeld ?hr215
          case hir215 => (simp only [gAx, gSx, gZx]; rfl)
          case hQr215 => exact fun _ _ _ h => h
          case hyr215 => exact Or.inl ⟨by rfl, by intro w_ hSw; (try dsimp only at hSw); first | (go_simp; done) | (go_simp; with_reducible rfl)⟩
          try simp only [Act.put, sAx, sZx, sSx]
          refine wpAnyH_take (i := 16) (oi := ?oir216) (v := ?vr216) ?hir216 (by kernel_rfl) (by kernel_rfl) (by kernel_rfl) ?hQr216 ?hyr216 hHeld ?hr216
          case hir216 => (simp only [gAx, gSx, gZx]; rfl)
          case hQr216 => exact fun _ _ _ h => h
          case hyr216 => exact Or.inl ⟨by rfl, by intro w_ hSw; (try dsimp only at hSw); first | (go_simp; done) | (go_simp; with_reducible rfl)⟩
          try simp only [Act.put, sAx, sZx, sSx]
          refine wpAnyH_take (i := 17) (oi := ?oir217) (v := undef) ?hir217 (by kernel_rfl) (by kernel_rfl) (by kernel_rfl) ?hQr217 ?hyr217 hHeld ?hr217
          case hir217 => (simp only [gAx, gSx, gZx]; rfl)
          case hQr217 => exact fun _ _ _ h => h
          case hyr217 => exact Or.inr ⟨by rfl, rfl⟩
          try simp only [Act.put, sAx, sZx, sSx]
          refine wpAnyH_take (i := 18) (oi := ?oir218) (v := undef) ?hir218 (by kernel_rfl) (by kernel_rfl) (by kernel_rfl) ?hQr218 ?hyr218 hHeld ?hr218
          case hir218 => (simp only [gAx, gSx, gZx]; rfl)
          case hQr218 => exact fun _ _ _ h => h
          case hyr218 => exact Or.inr ⟨by rfl, rfl⟩
          try simp only [Act.put, sAx, sZx, sSx]
          refine wpAnyH_take (i := 19) (oi := ?oir219) (v := undef) ?hir219 (by kernel_rfl) (by kernel_rfl) (by kernel_rfl) ?hQr219 ?hyr219 hHeld ?hr219
          case hir219 => (simp only [gAx, gSx, gZx]; rfl)
          case hQr219 => exact fun _ _ _ h => h
          case hyr219 => exact Or.inr ⟨by rfl, rfl⟩
          try simp only [Act.put, sAx, sZx, sSx]
          refine wpAnyH_take (i := 20) (oi := ?oir220) (v := undef) ?hir220 (by kernel_rfl) (by kernel_rfl) (by kernel_rfl) ?hQr220 ?hyr220 hHeld ?hr220
          case hir220 => (simp only [gAx, gSx, gZx]; rfl)
          case hQr220 => exact fun _ _ _ h => h
          case hyr220 => exact Or.inr ⟨by rfl, rfl⟩
          try simp only [Act.put, sAx, sZx, sSx]
          refine wpAnyH_take (i := 21) (oi := ?oir221) (v := undef) ?hir221 (by kernel_rfl) (by kernel_rfl) (by kernel_rfl) ?hQr221 ?hyr221 hHeld ?hr221
          case hir221 => (simp only [gAx, gSx, gZx]; rfl)
          case hQr221 => exact fun _ _ _ h => h
          case hyr221 => exact Or.inr ⟨by rfl, rfl⟩
          try simp only [Act.put, sAx, sZx, sSx]
          refine wpAnyH_take (i := 22) (oi := ?oir222) (v := ?vr222) ?hir222 (by kernel_rfl) (by kernel_rfl) (by kernel_rfl) ?hQr222 ?hyr222 hHeld ?hr222
          case hir222 => (simp only [gAx, gSx, gZx]; rfl)
          case hQr222 => exact fun _ _ _ h => h
          case hyr222 => exact Or.inl ⟨by rfl, by intro w_ hSw; (try dsimp only at hSw); first | (go_simp; done) | (go_simp; with_reducible rfl)⟩
          try simp only [Act.put, sAx, sZx, sSx]
          refine wpAnyH_take (i := 23) (oi := ?oir223) (v := ?vr223) ?hir223 (by kernel_rfl) (by kernel_rfl) (by kernel_rfl) ?hQr223 ?hyr223 hHeld ?hr223
          case hir223 => (simp only [gAx, gSx, gZx]; rfl)
          case hQr223 => exact fun _ _ _ h => h
          case hyr223 => exact Or.inl ⟨by rfl, by intro w_ hSw; (try dsimp only at hSw); first | (go_simp; done) | (go_simp; with_reducible rfl)⟩
          try simp only [Act.put, sAx, sZx, sSx]
          refine wpAnyH_take (i := 24) (oi := ?oir224) (v := undef) ?hir224 (by kernel_rfl) (by kernel_rfl) (by kernel_rfl) ?hQr224 ?hyr224 hHeld ?hr224
          case hir224 => (simp only [gAx, gSx, gZx]; rfl)
          case hQr224 => exact fun _ _ _ h => h
          case hyr224 => exact Or.inr ⟨by rfl, rfl⟩
          try simp only [Act.put, sAx, sZx, sSx]
          refine wpAnyH_take (i := 25) (oi := ?oir225) (v := undef) ?hir225 (by kernel_rfl) (by kernel_rfl) (by kernel_rfl) ?hQr225 ?hyr225 hHeld ?hr225
          case hir225 => (simp only [gAx, gSx, gZx]; rfl)
          case hQr225 => exact fun _ _ _ h => h
          case hyr225 => exact Or.inr ⟨by rfl, rfl⟩
          try simp only [Act.put, sAx, sZx, sSx]
          refine wpAnyH_take (i := 26) (oi := ?oir226) (v := undef) ?hir226 (by kernel_rfl) (by kernel_rfl) (by kernel_rfl) ?hQr226 ?hyr226 hHeld ?hr226
          case hir226 => (simp only [gAx, gSx, gZx]; rfl)
          case hQr226 => exact fun _ _ _ h => h
          case hyr226 => exact Or.inr ⟨by rfl, rfl⟩
          try simp only [Act.put, sAx, sZx, sSx]
          refine wpAnyH_take (i := 27) (oi := ?oir227) (v := ?vr227) ?hir227 (by kernel_rfl) (by kernel_rfl) (by kernel_rfl) ?hQr227 ?hyr227 hHeld ?hr227
          case hir227 => (simp only [gAx, gSx, gZx]; rfl)
          case hQr227 => exact fun _ _ _ h => h
          case hyr227 => exact Or.inl ⟨by rfl, by intro w_ hSw; (try dsimp only at hSw); first | (go_simp; done) | (go_simp; with_reducible rfl)⟩
          try simp only [Act.put, sAx, sZx, sSx]
          refine wpAnyH_take (i := 28) (oi := ?oir228) (v := ?vr228) ?hir228 (by kernel_rfl) (by kernel_rfl) (by kernel_rfl) ?hQr228 ?hyr228 hHeld ?hr228
          case hir228 => (simp only [gAx, gSx, gZx]; rfl)
          case hQr228 => exact fun _ _ _ h => h
          case hyr228 => exact Or.inl ⟨by rfl, by intro w_ hSw; (try dsimp only at hSw); first | (go_simp; done) | (go_simp; with_reducible rfl)⟩
          try simp only [Act.put, sAx, sZx, sSx]
          refine wpAnyH_done (by kernel_rfl) ?_ _
          go_wp2
          go_ret
          exact ⟨rfl, below_step HBW.out (hHeld.2)⟩
        | true =>
          have HE1 := Aside0.mk he1
          cases he2 : eqB p2 with
          | false =>
            have HE2 := Aside0.mk he2
            obtain rfl : r = false := by rw [← HRR.out, he0, he1, he2]; rfl
            clear he0 he1 he2
            refine wp_region_held_drew (S := (fun W => W.heap[w.heap.size]? = some (.cells (arr (y22 p0 p1 p2 cn)) 31 (0, 0)) ∧ Below w8.heap.size w8 W)) (by kernel_rfl) ⟨Z8.out, below_drew (Below.refl _ _)⟩ (fun hHeld => ?_)
            refine wpAnyH_take (i := 0) (oi := ?oir30) (v := ?vr30) ?hir30 (by kernel_rfl) (by kernel_rfl) (by kernel_rfl) ?hQr30 ?hyr30 hHeld ?hr30
            case hir30 => (simp only [gAx, gSx, gZx]; rfl)
            case hQr30 => exact fun _ _ _ h => h
            case hyr30 => exact Or.inl ⟨by rfl, by intro w_ hSw; (try dsimp only at hSw); first | (go_simp; done) | (go_simp; with_reducible rfl)⟩
            try simp only [Act.put, sAx, sZx, sSx]
            refine wpAnyH_ready (rs := [1]) (by kernel_rfl) (by simp) ?_
            refine AllReadyH.cons (o := ?ocr31) ?hcr31 (fun K hK => ?hkr31) AllReadyH.nil
            case hcr31 => (simp only [gAx, gSx, gZx]; rfl)
            go_simp
            go_at_call 17
            refine (spec_l2Order.calls k A8 c8 al _ _ (Kd.C_below HC8.out (hHeld.2)) HL8.out HT.out).mono ?_
            rintro e w_9 ⟨rfl, hd⟩
            have hb9 := Drawn0.below hd
            clear hd
            try dsimp only
            refine hK.out _ _ ⟨(hb9.block _ (lt_of_block (hHeld.1))).trans (hHeld.1), below_step (hHeld.2) hb9⟩ (fun hHeld => ?_)
            clear hK K
            try simp only [Act.put, sAx, sZx, sSx]
            refine wpAnyH_take (i := 2) (oi := ?oir32) (v := ?vr32) ?hir32 (by kernel_rfl) (by kernel_rfl) (by kernel_rfl) ?hQr32 ?hyr32 hHeld ?hr32
            case hir32 => (simp only [gAx, gSx, gZx]; rfl)
            case hQr32 => exact fun _ _ _ h => h
            case hyr32 => exact Or.inl ⟨by rfl, by intro w_ hSw; (try dsimp only at hSw); first | (go_simp; done) | (go_simp; with_reducible rfl)⟩
            try simp only [Act.put, sAx, sZx, sSx]
            refine wpAnyH_take (i := 3) (oi := ?oir33) (v := ?vr33) ?hir33 (by kernel_rfl) (by kernel_rfl) (by kernel_rfl) ?hQr33 ?hyr33 hHeld ?hr33
            case hir33 => (simp only [gAx, gSx, gZx]; rfl)
            case hQr33 => exact fun _ _ _ h => h
            case hyr33 => exact Or.inl ⟨by rfl, by intro w_ hSw; (try dsimp only at hSw); first | (go_simp; done) | (go_simp; with_reducible rfl)⟩
            try simp only [Act.put, sAx, sZx, sSx]
            refine wpAnyH_take (i := 5) (oi := ?oir35) (v := ?vr35) ?hir35 (by kernel_rfl) (by kernel_rfl) (by kernel_rfl) ?hQr35 ?hyr35 hHeld ?hr35
            case hir35 => (simp only [gAx, gSx, gZx]; rfl)
            case hQr35 => exact fun _ _ _ h => h
            case hyr35 => exact Or.inl ⟨by rfl, by intro w_ hSw; (try dsimp only at hSw); first | (go_simp; done) | (go_simp; with_reducible rfl)⟩
            try simp only [Act.put, sAx, sZx, sSx]
            refine wpAnyH_take (i := 6) (oi := ?oir36) (v := (.agg (arr (m7 p0)))) ?hir36 (by kernel_rfl) (by kernel_rfl) (by kernel_rfl) ?hQr36 ?hyr36 hHeld ?hr36
            case hir36 => (simp only [gAx, gSx, gZx]; rfl)
            case hQr36 => exact fun _ _ _ h => h
            case hyr36 => exact Or.inl ⟨by rfl, fun w_ hSw => execLoad (addr := .pointer (some ⟨w.heap.size, 0, none⟩)) (v := .agg (arr (m7 p0))) rfl rfl (load7 (by have h_ := hSw.1; rw [y22_0] at h_; exact h_) (by rfl))⟩
            try simp only [Act.put, sAx, sZx, sSx]
            refine wpAnyH_ready (rs := [4]) (by kernel_rfl) (by simp) ?_
            refine AllReadyH.cons (o := ?ocr34) ?hcr34 (fun K hK => ?hkr34) AllReadyH.nil
            case hcr34 => (simp only [gAx, gSx, gZx]; rfl)
            go_simp
            go_at_call 18
            refine (spec_l12Array_walk A0 c0 (tw p0) _ (Kd.C_below D0.out (hHeld.2)) HL0.out).mono ?_
            rintro e w_0 ⟨rfl, hb0⟩
            try dsimp only
            refine hK.out _ _ ⟨(hb0.block _ (lt_of_block (hHeld.1))).trans (hHeld.1), below_step (hHeld.2) hb0⟩ (fun hHeld => ?_)
            clear hK K
            try simp only [Act.put, sAx, sZx, sSx]
            refine wpAnyH_take (i := 7) (oi := ?oir37) (v := (.bool true)) ?hir37 (by kernel_rfl) (by kernel_rfl) (by kernel_rfl) ?hQr37 ?hyr37 hHeld ?hr37
            case hir37 => (simp only [gAx, gSx, gZx]; rfl)
            case hQr37 => exact fun _ _ _ h => h
            case hyr37 => exact Or.inl ⟨by rfl, fun w_ hSw => execEqB HE0.out rfl rfl rfl⟩
            try simp only [Act.put, sAx, sZx, sSx]
            refine wpAnyH_take (i := 8) (oi := ?oir38) (v := ?vr38) ?hir38 (by kernel_rfl) (by kernel_rfl) (by kernel_rfl) ?hQr38 ?hyr38 hHeld ?hr38
            case hir38 => (simp only [gAx, gSx, gZx]; rfl)
            case hQr38 => exact fun _ _ _ h => h
            case hyr38 => exact Or.inl ⟨by rfl, by intro w_ hSw; (try dsimp only at hSw); first | (go_simp; done) | (go_simp; with_reducible rfl)⟩
            try simp only [Act.put, sAx, sZx, sSx]
            refine wpAnyH_take (i := 9) (oi := ?oir39) (v := ?vr39) ?hir39 (by kernel_rfl) (by kernel_rfl) (by kernel_rfl) ?hQr39 ?hyr39 hHeld ?hr39
            case hir39 => (simp only [gAx, gSx, gZx]; rfl)
            case hQr39 => exact fun _ _ _ h => h
            case hyr39 => exact Or.inl ⟨by rfl, by intro w_ hSw; (try dsimp only at hSw); first | (go_simp; done) | (go_simp; with_reducible rfl)⟩
            try simp only [Act.put, sAx, sZx, sSx]
            refine wpAnyH_take (i := 10) (oi := ?oir310) (v := ?vr310) ?hir310 (by kernel_rfl) (by kernel_rfl) (by kernel_rfl) ?hQr310 ?hyr310 hHeld ?hr310
            case hir310 => (simp only [gAx, gSx, gZx]; rfl)
            case hQr310 => exact fun _ _ _ h => h
            case hyr310 => exact Or.inl ⟨by rfl, by intro w_ hSw; (try dsimp only at hSw); first | (go_simp; done) | (go_simp; with_reducible rfl)⟩
            try simp only [Act.put, sAx, sZx, sSx]
            refine wpAnyH_take (i := 12) (oi := ?oir312) (v := ?vr312) ?hir312 (by kernel_rfl) (by kernel_rfl) (by kernel_rfl) ?hQr312 ?hyr312 hHeld ?hr312
            case hir312 => (simp only [gAx, gSx, gZx]; rfl)
            case hQr312 => exact fun _ _ _ h => h
            case hyr312 => exact Or.inl ⟨by rfl, by intro w_ hSw; (try dsimp only at hSw); first | (go_simp; done) | (go_simp; with_reducible rfl)⟩
            try simp only [Act.put, sAx, sZx, sSx]
            refine wpAnyH_take (i := 13) (oi := ?oir313) (v := (.agg (arr (m7 p1)))) ?hir313 (by kernel_rfl) (by kernel_rfl) (by kernel_rfl) ?hQr313 ?hyr313 hHeld ?hr313
            case hir313 => (simp only [gAx, gSx, gZx]; rfl)
            case hQr313 => exact fun _ _ _ h => h
            case hyr313 => exact Or.inl ⟨by rfl, fun w_ hSw => execLoad (addr := .pointer (some ⟨w.heap.size, 7, none⟩)) (v := .agg (arr (m7 p1))) rfl rfl (load7 (by have h_ := hSw.1; rw [y22_1] at h_; exact h_) (by rfl))⟩
            try simp only [Act.put, sAx, sZx, sSx]
            refine wpAnyH_ready (rs := [11]) (by kernel_rfl) (by simp) ?_
            refine AllReadyH.cons (o := ?ocr311) ?hcr311 (fun K hK => ?hkr311) AllReadyH.nil
            case hcr311 => (simp only [gAx, gSx, gZx]; rfl)
            go_simp
            go_at_call 18
            refine (spec_l12Array_walk A1 c1 (tw p1) _ (Kd.C_below D1.out (hHeld.2)) HL1.out).mono ?_
            rintro e w_1 ⟨rfl, hb1⟩
            try dsimp only
            refine hK.out _ _ ⟨(hb1.block _ (lt_of_block (hHeld.1))).trans (hHeld.1), below_step (hHeld.2) hb1⟩ (fun hHeld => ?_)
            clear hK K
            try simp only [Act.put, sAx, sZx, sSx]
            refine wpAnyH_take (i := 14) (oi := ?oir314) (v := (.bool true)) ?hir314 (by kernel_rfl) (by kernel_rfl) (by kernel_rfl) ?hQr314 ?hyr314 hHeld ?hr314
            case hir314 => (simp only [gAx, gSx, gZx]; rfl)
            case hQr314 => exact fun _ _ _ h => h
            case hyr314 => exact Or.inl ⟨by rfl, fun w_ hSw => execEqB HE1.out rfl rfl rfl⟩
            try simp only [Act.put, sAx, sZx, sSx]
            refine wpAnyH_take (i := 15) (oi := ?oir315) (v := ?vr315) ?hir315 (by kernel_rfl) (by kernel_rfl) (by kernel_rfl) ?hQr315 ?hyr315 hHeld ?hr315
            case hir315 => (simp only [gAx, gSx, gZx]; rfl)
            case hQr315 => exact fun _ _ _ h => h
            case hyr315 => exact Or.inl ⟨by rfl, by intro w_ hSw; (try dsimp only at hSw); first | (go_simp; done) | (go_simp; with_reducible rfl)⟩
            try simp only [Act.put, sAx, sZx, sSx]
            refine wpAnyH_take (i := 16) (oi := ?oir316) (v := ?vr316) ?hir316 (by kernel_rfl) (by kernel_rfl) (by kernel_rfl) ?hQr316 ?hyr316 hHeld ?hr316
            case hir316 => (simp only [gAx, gSx, gZx]; rfl)
            case hQr316 => exact fun _ _ _ h => h
            case hyr316 => exact Or.inl ⟨by rfl, by intro w_ hSw; (try dsimp only at hSw); first | (go_simp; done) | (go_simp; with_reducible rfl)⟩
            try simp only [Act.put, sAx, sZx, sSx]
            refine wpAnyH_take (i := 17) (oi := ?oir317) (v := ?vr317) ?hir317 (by kernel_rfl) (by kernel_rfl) (by kernel_rfl) ?hQr317 ?hyr317 hHeld ?hr317
            case hir317 => (simp only [gAx, gSx, gZx]; rfl)
            case hQr317 => exact fun _ _ _ h => h
            case hyr317 => exact Or.inl ⟨by rfl, by intro w_ hSw; (try dsimp only at hSw); first | (go_simp; done) | (go_simp; with_reducible rfl)⟩
            try simp only [Act.put, sAx, sZx, sSx]
            refine wpAnyH_take (i := 19) (oi := ?oir319) (v := ?vr319) ?hir319 (by kernel_rfl) (by kernel_rfl) (by kernel_rfl) ?hQr319 ?hyr319 hHeld ?hr319
            case hir319 => (simp only [gAx, gSx, gZx]; rfl)
            case hQr319 => exact fun _ _ _ h => h
            case hyr319 => exact Or.inl ⟨by rfl, by intro w_ hSw; (try dsimp only at hSw); first | (go_simp; done) | (go_simp; with_reducible rfl)⟩
            try simp only [Act.put, sAx, sZx, sSx]
            refine wpAnyH_take (i := 20) (oi := ?oir320) (v := (.agg (arr (m7 p2)))) ?hir320 (by kernel_rfl) (by kernel_rfl) (by kernel_rfl) ?hQr320 ?hyr320 hHeld ?hr320
            case hir320 => (simp only [gAx, gSx, gZx]; rfl)
            case hQr320 => exact fun _ _ _ h => h
            case hyr320 => exact Or.inl ⟨by rfl, fun w_ hSw => execLoad (addr := .pointer (some ⟨w.heap.size, 14, none⟩)) (v := .agg (arr (m7 p2))) rfl rfl (load7 (by have h_ := hSw.1; rw [y22_2] at h_; exact h_) (by rfl))⟩
            try simp only [Act.put, sAx, sZx, sSx]
            refine wpAnyH_ready (rs := [18]) (by kernel_rfl) (by simp) ?_
            refine AllReadyH.cons (o := ?ocr318) ?hcr318 (fun K hK => ?hkr318) AllReadyH.nil
            case hcr318 => (simp only [gAx, gSx, gZx]; rfl)
            go_simp
            go_at_call 18
            refine (spec_l12Array_walk A2 c2 (tw p2) _ (Kd.C_below D2.out (hHeld.2)) HL2.out).mono ?_
            rintro e w_2 ⟨rfl, hb2⟩
            try dsimp only
            refine hK.out _ _ ⟨(hb2.block _ (lt_of_block (hHeld.1))).trans (hHeld.1), below_step (hHeld.2) hb2⟩ (fun hHeld => ?_)
            clear hK K
            try simp only [Act.put, sAx, sZx, sSx]
            refine wpAnyH_take (i := 21) (oi := ?oir321) (v := (.bool false)) ?hir321 (by kernel_rfl) (by kernel_rfl) (by kernel_rfl) ?hQr321 ?hyr321 hHeld ?hr321
            case hir321 => (simp only [gAx, gSx, gZx]; rfl)
            case hQr321 => exact fun _ _ _ h => h
            case hyr321 => exact Or.inl ⟨by rfl, fun w_ hSw => execEqB HE2.out rfl rfl rfl⟩
            try simp only [Act.put, sAx, sZx, sSx]
            refine wpAnyH_take (i := 22) (oi := ?oir322) (v := ?vr322) ?hir322 (by kernel_rfl) (by kernel_rfl) (by kernel_rfl) ?hQr322 ?hyr322 hHeld ?hr322
            case hir322 => (simp only [gAx, gSx, gZx]; rfl)
            case hQr322 => exact fun _ _ _ h => h
            case hyr322 => exact Or.inl ⟨by rfl, by intro w_ hSw; (try dsimp only at hSw); first | (go_simp; done) | (go_simp; with_reducible rfl)⟩
            try simp only [Act.put, sAx, sZx, sSx]
            refine wpAnyH_take (i := 23) (oi := ?oir323) (v := ?vr323) ?hir323 (by kernel_rfl) (by kernel_rfl) (by kernel_rfl) ?hQr323 ?hyr323 hHeld ?hr323
            case hir323 => (simp only [gAx, gSx, gZx]; rfl)
            case hQr323 => exact fun _ _ _ h => h
            case hyr323 => exact Or.inl ⟨by rfl, by intro w_ hSw; (try dsimp only at hSw); first | (go_simp; done) | (go_simp; with_reducible rfl)⟩
            try simp only [Act.put, sAx, sZx, sSx]
            refine wpAnyH_take (i := 24) (oi := ?oir324) (v := undef) ?hir324 (by kernel_rfl) (by kernel_rfl) (by kernel_rfl) ?hQr324 ?hyr324 hHeld ?hr324
            case hir324 => (simp only [gAx, gSx, gZx]; rfl)
            case hQr324 => exact fun _ _ _ h => h
            case hyr324 => exact Or.inr ⟨by rfl, rfl⟩
            try simp only [Act.put, sAx, sZx, sSx]
            refine wpAnyH_take (i := 25) (oi := ?oir325) (v := undef) ?hir325 (by kernel_rfl) (by kernel_rfl) (by kernel_rfl) ?hQr325 ?hyr325 hHeld ?hr325
            case hir325 => (simp only [gAx, gSx, gZx]; rfl)
            case hQr325 => exact fun _ _ _ h => h
            case hyr325 => exact Or.inr ⟨by rfl, rfl⟩
            try simp only [Act.put, sAx, sZx, sSx]
            refine wpAnyH_take (i := 26) (oi := ?oir326) (v := undef) ?hir326 (by kernel_rfl) (by kernel_rfl) (by kernel_rfl) ?hQr326 ?hyr326 hHeld ?hr326
            case hir326 => (simp only [gAx, gSx, gZx]; rfl)
            case hQr326 => exact fun _ _ _ h => h
            case hyr326 => exact Or.inr ⟨by rfl, rfl⟩
            try simp only [Act.put, sAx, sZx, sSx]
            refine wpAnyH_take (i := 27) (oi := ?oir327) (v := ?vr327) ?hir327 (by kernel_rfl) (by kernel_rfl) (by kernel_rfl) ?hQr327 ?hyr327 hHeld ?hr327
            case hir327 => (simp only [gAx, gSx, gZx]; rfl)
            case hQr327 => exact fun _ _ _ h => h
            case hyr327 => exact Or.inl ⟨by rfl, by intro w_ hSw; (try dsimp only at hSw); first | (go_simp; done) | (go_simp; with_reducible rfl)⟩
            try simp only [Act.put, sAx, sZx, sSx]
            refine wpAnyH_take (i := 28) (oi := ?oir328) (v := ?vr328) ?hir328 (by kernel_rfl) (by kernel_rfl) (by kernel_rfl) ?hQr328 ?hyr328 hHeld ?hr328
            case hir328 => (simp only [gAx, gSx, gZx]; rfl)
            case hQr328 => exact fun _ _ _ h => h
            case hyr328 => exact Or.inl ⟨by rfl, by intro w_ hSw; (try dsimp only at hSw); first | (go_simp; done) | (go_simp; with_reducible rfl)⟩
            try simp only [Act.put, sAx, sZx, sSx]
            refine wpAnyH_done (by kernel_rfl) ?_ _
            go_wp2
            go_ret
            exact ⟨rfl, below_step HBW.out (hHeld.2)⟩
          | true =>
            have HE2 := Aside0.mk he2
            obtain rfl : r = b5 := by rw [← HRR.out, he0, he1, he2]; rfl
            clear he0 he1 he2
            refine wp_region_held_drew (S := (fun W => W.heap[w.heap.size]? = some (.cells (arr (y22 p0 p1 p2 cn)) 31 (0, 0)) ∧ Below w8.heap.size w8 W)) (by kernel_rfl) ⟨Z8.out, below_drew (Below.refl _ _)⟩ (fun hHeld => ?_)
            refine wpAnyH_take (i := 0) (oi := ?oir40) (v := ?vr40) ?hir40 (by kernel_rfl) (by kernel_rfl) (by kernel_rfl) ?hQr40 ?hyr40 hHeld ?hr40
            case hir40 => (simp only [gAx, gSx, gZx]; rfl)
            case hQr40 => exact fun _ _ _ h => h
            case hyr40 => exact Or.inl ⟨by rfl, by intro w_ hSw; (try dsimp only at hSw); first | (go_simp; done) | (go_simp; with_reducible rfl)⟩
            try simp only [Act.put, sAx, sZx, sSx]
            refine wpAnyH_ready (rs := [1]) (by kernel_rfl) (by simp) ?_
            refine AllReadyH.cons (o := ?ocr41) ?hcr41 (fun K hK => ?hkr41) AllReadyH.nil
            case hcr41 => (simp only [gAx, gSx, gZx]; rfl)
            go_simp
            go_at_call 17
            refine (spec_l2Order.calls k A8 c8 al _ _ (Kd.C_below HC8.out (hHeld.2)) HL8.out HT.out).mono ?_
            rintro e w_9 ⟨rfl, hd⟩
            have hb9 := Drawn0.below hd
            clear hd
            try dsimp only
            refine hK.out _ _ ⟨(hb9.block _ (lt_of_block (hHeld.1))).trans (hHeld.1), below_step (hHeld.2) hb9⟩ (fun hHeld => ?_)
            clear hK K
            try simp only [Act.put, sAx, sZx, sSx]
            refine wpAnyH_take (i := 2) (oi := ?oir42) (v := ?vr42) ?hir42 (by kernel_rfl) (by kernel_rfl) (by kernel_rfl) ?hQr42 ?hyr42 hHeld ?hr42
            case hir42 => (simp only [gAx, gSx, gZx]; rfl)
            case hQr42 => exact fun _ _ _ h => h
            case hyr42 => exact Or.inl ⟨by rfl, by intro w_ hSw; (try dsimp only at hSw); first | (go_simp; done) | (go_simp; with_reducible rfl)⟩
            try simp only [Act.put, sAx, sZx, sSx]
            refine wpAnyH_take (i := 3) (oi := ?oir43) (v := ?vr43) ?hir43 (by kernel_rfl) (by kernel_rfl) (by kernel_rfl) ?hQr43 ?hyr43 hHeld ?hr43
            case hir43 => (simp only [gAx, gSx, gZx]; rfl)
            case hQr43 => exact fun _ _ _ h => h
            case hyr43 => exact Or.inl ⟨by rfl, by intro w_ hSw; (try dsimp only at hSw); first | (go_simp; done) | (go_simp; with_reducible rfl)⟩
            try simp only [Act.put, sAx, sZx, sSx]
            refine wpAnyH_take (i := 5) (oi := ?oir45) (v := ?vr45) ?hir45 (by kernel_rfl) (by kernel_rfl) (by kernel_rfl) ?hQr45 ?hyr45 hHeld ?hr45
            case hir45 => (simp only [gAx, gSx, gZx]; rfl)
            case hQr45 => exact fun _ _ _ h => h
            case hyr45 => exact Or.inl ⟨by rfl, by intro w_ hSw; (try dsimp only at hSw); first | (go_simp; done) | (go_simp; with_reducible rfl)⟩
            try simp only [Act.put, sAx, sZx, sSx]
            refine wpAnyH_take (i := 6) (oi := ?oir46) (v := (.agg (arr (m7 p0)))) ?hir46 (by kernel_rfl) (by kernel_rfl) (by kernel_rfl) ?hQr46 ?hyr46 hHeld ?hr46
            case hir46 => (simp only [gAx, gSx, gZx]; rfl)
            case hQr46 => exact fun _ _ _ h => h
            case hyr46 => exact Or.inl ⟨by rfl, fun w_ hSw => execLoad (addr := .pointer (some ⟨w.heap.size, 0, none⟩)) (v := .agg (arr (m7 p0))) rfl rfl (load7 (by have h_ := hSw.1; rw [y22_0] at h_; exact h_) (by rfl))⟩
            try simp only [Act.put, sAx, sZx, sSx]
            refine wpAnyH_ready (rs := [4]) (by kernel_rfl) (by simp) ?_
            refine AllReadyH.cons (o := ?ocr44) ?hcr44 (fun K hK => ?hkr44) AllReadyH.nil
            case hcr44 => (simp only [gAx, gSx, gZx]; rfl)
            go_simp
            go_at_call 18
            refine (spec_l12Array_walk A0 c0 (tw p0) _ (Kd.C_below D0.out (hHeld.2)) HL0.out).mono ?_
            rintro e w_0 ⟨rfl, hb0⟩
            try dsimp only
            refine hK.out _ _ ⟨(hb0.block _ (lt_of_block (hHeld.1))).trans (hHeld.1), below_step (hHeld.2) hb0⟩ (fun hHeld => ?_)
            clear hK K
            try simp only [Act.put, sAx, sZx, sSx]
            refine wpAnyH_take (i := 7) (oi := ?oir47) (v := (.bool true)) ?hir47 (by kernel_rfl) (by kernel_rfl) (by kernel_rfl) ?hQr47 ?hyr47 hHeld ?hr47
            case hir47 => (simp only [gAx, gSx, gZx]; rfl)
            case hQr47 => exact fun _ _ _ h => h
            case hyr47 => exact Or.inl ⟨by rfl, fun w_ hSw => execEqB HE0.out rfl rfl rfl⟩
            try simp only [Act.put, sAx, sZx, sSx]
            refine wpAnyH_take (i := 8) (oi := ?oir48) (v := ?vr48) ?hir48 (by kernel_rfl) (by kernel_rfl) (by kernel_rfl) ?hQr48 ?hyr48 hHeld ?hr48
            case hir48 => (simp only [gAx, gSx, gZx]; rfl)
            case hQr48 => exact fun _ _ _ h => h
            case hyr48 => exact Or.inl ⟨by rfl, by intro w_ hSw; (try dsimp only at hSw); first | (go_simp; done) | (go_simp; with_reducible rfl)⟩
            try simp only [Act.put, sAx, sZx, sSx]
            refine wpAnyH_take (i := 9) (oi := ?oir49) (v := ?vr49) ?hir49 (by kernel_rfl) (by kernel_rfl) (by kernel_rfl) ?hQr49 ?hyr49 hHeld ?hr49
            case hir49 => (simp only [gAx, gSx, gZx]; rfl)
            case hQr49 => exact fun _ _ _ h => h
            case hyr49 => exact Or.inl ⟨by rfl, by intro w_ hSw; (try dsimp only at hSw); first | (go_simp; done) | (go_simp; with_reducible rfl)⟩
            try simp only [Act.put, sAx, sZx, sSx]
            refine wpAnyH_take (i := 10) (oi := ?oir410) (v := ?vr410) ?hir410 (by kernel_rfl) (by kernel_rfl) (by kernel_rfl) ?hQr410 ?hyr410 hHeld ?hr410
            case hir410 => (simp only [gAx, gSx, gZx]; rfl)
            case hQr410 => exact fun _ _ _ h => h
            case hyr410 => exact Or.inl ⟨by rfl, by intro w_ hSw; (try dsimp only at hSw); first | (go_simp; done) | (go_simp; with_reducible rfl)⟩
            try simp only [Act.put, sAx, sZx, sSx]
            refine wpAnyH_take (i := 12) (oi := ?oir412) (v := ?vr412) ?hir412 (by kernel_rfl) (by kernel_rfl) (by kernel_rfl) ?hQr412 ?hyr412 hHeld ?hr412
            case hir412 => (simp only [gAx, gSx, gZx]; rfl)
            case hQr412 => exact fun _ _ _ h => h
            case hyr412 => exact Or.inl ⟨by rfl, by intro w_ hSw; (try dsimp only at hSw); first | (go_simp; done) | (go_simp; with_reducible rfl)⟩
            try simp only [Act.put, sAx, sZx, sSx]
            refine wpAnyH_take (i := 13) (oi := ?oir413) (v := (.agg (arr (m7 p1)))) ?hir413 (by kernel_rfl) (by kernel_rfl) (by kernel_rfl) ?hQr413 ?hyr413 hHeld ?hr413
            case hir413 => (simp only [gAx, gSx, gZx]; rfl)
            case hQr413 => exact fun _ _ _ h => h
            case hyr413 => exact Or.inl ⟨by rfl, fun w_ hSw => execLoad (addr := .pointer (some ⟨w.heap.size, 7, none⟩)) (v := .agg (arr (m7 p1))) rfl rfl (load7 (by have h_ := hSw.1; rw [y22_1] at h_; exact h_) (by rfl))⟩
            try simp only [Act.put, sAx, sZx, sSx]
            refine wpAnyH_ready (rs := [11]) (by kernel_rfl) (by simp) ?_
            refine AllReadyH.cons (o := ?ocr411) ?hcr411 (fun K hK => ?hkr411) AllReadyH.nil
            case hcr411 => (simp only [gAx, gSx, gZx]; rfl)
            go_simp
            go_at_call 18
            refine (spec_l12Array_walk A1 c1 (tw p1) _ (Kd.C_below D1.out (hHeld.2)) HL1.out).mono ?_
            rintro e w_1 ⟨rfl, hb1⟩
            try dsimp only
            refine hK.out _ _ ⟨(hb1.block _ (lt_of_block (hHeld.1))).trans (hHeld.1), below_step (hHeld.2) hb1⟩ (fun hHeld => ?_)
            clear hK K
            try simp only [Act.put, sAx, sZx, sSx]
            refine wpAnyH_take (i := 14) (oi := ?oir414) (v := (.bool true)) ?hir414 (by kernel_rfl) (by kernel_rfl) (by kernel_rfl) ?hQr414 ?hyr414 hHeld ?hr414
            case hir414 => (simp only [gAx, gSx, gZx]; rfl)
            case hQr414 => exact fun _ _ _ h => h
            case hyr414 => exact Or.inl ⟨by rfl, fun w_ hSw => execEqB HE1.out rfl rfl rfl⟩
            try simp only [Act.put, sAx, sZx, sSx]
            refine wpAnyH_take (i := 15) (oi := ?oir415) (v := ?vr415) ?hir415 (by kernel_rfl) (by kernel_rfl) (by kernel_rfl) ?hQr415 ?hyr415 hHeld ?hr415
            case hir415 => (simp only [gAx, gSx, gZx]; rfl)
            case hQr415 => exact fun _ _ _ h => h
            case hyr415 => exact Or.inl ⟨by rfl, by intro w_ hSw; (try dsimp only at hSw); first | (go_simp; done) | (go_simp; with_reducible rfl)⟩
            try simp only [Act.put, sAx, sZx, sSx]
            refine wpAnyH_take (i := 16) (oi := ?oir416) (v := ?vr416) ?hir416 (by kernel_rfl) (by kernel_rfl) (by kernel_rfl) ?hQr416 ?hyr416 hHeld ?hr416
            case hir416 => (simp only [gAx, gSx, gZx]; rfl)
            case hQr416 => exact fun _ _ _ h => h
            case hyr416 => exact Or.inl ⟨by rfl, by intro w_ hSw; (try dsimp only at hSw); first | (go_simp; done) | (go_simp; with_reducible rfl)⟩
            try simp only [Act.put, sAx, sZx, sSx]
            refine wpAnyH_take (i := 17) (oi := ?oir417) (v := ?vr417) ?hir417 (by kernel_rfl) (by kernel_rfl) (by kernel_rfl) ?hQr417 ?hyr417 hHeld ?hr417
            case hir417 => (simp only [gAx, gSx, gZx]; rfl)
            case hQr417 => exact fun _ _ _ h => h
            case hyr417 => exact Or.inl ⟨by rfl, by intro w_ hSw; (try dsimp only at hSw); first | (go_simp; done) | (go_simp; with_reducible rfl)⟩
            try simp only [Act.put, sAx, sZx, sSx]
            refine wpAnyH_take (i := 19) (oi := ?oir419) (v := ?vr419) ?hir419 (by kernel_rfl) (by kernel_rfl) (by kernel_rfl) ?hQr419 ?hyr419 hHeld ?hr419
            case hir419 => (simp only [gAx, gSx, gZx]; rfl)
            case hQr419 => exact fun _ _ _ h => h
            case hyr419 => exact Or.inl ⟨by rfl, by intro w_ hSw; (try dsimp only at hSw); first | (go_simp; done) | (go_simp; with_reducible rfl)⟩
            try simp only [Act.put, sAx, sZx, sSx]
            refine wpAnyH_take (i := 20) (oi := ?oir420) (v := (.agg (arr (m7 p2)))) ?hir420 (by kernel_rfl) (by kernel_rfl) (by kernel_rfl) ?hQr420 ?hyr420 hHeld ?hr420
            case hir420 => (simp only [gAx, gSx, gZx]; rfl)
            case hQr420 => exact fun _ _ _ h => h
            case hyr420 => exact Or.inl ⟨by rfl, fun w_ hSw => execLoad (addr := .pointer (some ⟨w.heap.size, 14, none⟩)) (v := .agg (arr (m7 p2))) rfl rfl (load7 (by have h_ := hSw.1; rw [y22_2] at h_; exact h_) (by rfl))⟩
            try simp only [Act.put, sAx, sZx, sSx]
            refine wpAnyH_ready (rs := [18]) (by kernel_rfl) (by simp) ?_
            refine AllReadyH.cons (o := ?ocr418) ?hcr418 (fun K hK => ?hkr418) AllReadyH.nil
            case hcr418 => (simp only [gAx, gSx, gZx]; rfl)
            go_simp
            go_at_call 18
            refine (spec_l12Array_walk A2 c2 (tw p2) _ (Kd.C_below D2.out (hHeld.2)) HL2.out).mono ?_
            rintro e w_2 ⟨rfl, hb2⟩
            try dsimp only
            refine hK.out _ _ ⟨(hb2.block _ (lt_of_block (hHeld.1))).trans (hHeld.1), below_step (hHeld.2) hb2⟩ (fun hHeld => ?_)
            clear hK K
            try simp only [Act.put, sAx, sZx, sSx]
            refine wpAnyH_take (i := 21) (oi := ?oir421) (v := (.bool true)) ?hir421 (by kernel_rfl) (by kernel_rfl) (by kernel_rfl) ?hQr421 ?hyr421 hHeld ?hr421
            case hir421 => (simp only [gAx, gSx, gZx]; rfl)
            case hQr421 => exact fun _ _ _ h => h
            case hyr421 => exact Or.inl ⟨by rfl, fun w_ hSw => execEqB HE2.out rfl rfl rfl⟩
            try simp only [Act.put, sAx, sZx, sSx]
            refine wpAnyH_take (i := 22) (oi := ?oir422) (v := ?vr422) ?hir422 (by kernel_rfl) (by kernel_rfl) (by kernel_rfl) ?hQr422 ?hyr422 hHeld ?hr422
            case hir422 => (simp only [gAx, gSx, gZx]; rfl)
            case hQr422 => exact fun _ _ _ h => h
            case hyr422 => exact Or.inl ⟨by rfl, by intro w_ hSw; (try dsimp only at hSw); first | (go_simp; done) | (go_simp; with_reducible rfl)⟩
            try simp only [Act.put, sAx, sZx, sSx]
            refine wpAnyH_take (i := 23) (oi := ?oir423) (v := ?vr423) ?hir423 (by kernel_rfl) (by kernel_rfl) (by kernel_rfl) ?hQr423 ?hyr423 hHeld ?hr423
            case hir423 => (simp only [gAx, gSx, gZx]; rfl)
            case hQr423 => exact fun _ _ _ h => h
            case hyr423 => exact Or.inl ⟨by rfl, by intro w_ hSw; (try dsimp only at hSw); first | (go_simp; done) | (go_simp; with_reducible rfl)⟩
            try simp only [Act.put, sAx, sZx, sSx]
            refine wpAnyH_take (i := 24) (oi := ?oir424) (v := ?vr424) ?hir424 (by kernel_rfl) (by kernel_rfl) (by kernel_rfl) ?hQr424 ?hyr424 hHeld ?hr424
            case hir424 => (simp only [gAx, gSx, gZx]; rfl)
            case hQr424 => exact fun _ _ _ h => h
            case hyr424 => exact Or.inl ⟨by rfl, by intro w_ hSw; (try dsimp only at hSw); first | (go_simp; done) | (go_simp; with_reducible rfl)⟩
            try simp only [Act.put, sAx, sZx, sSx]
            refine wpAnyH_take (i := 25) (oi := ?oir425) (v := (.int .i64 cn)) ?hir425 (by kernel_rfl) (by kernel_rfl) (by kernel_rfl) ?hQr425 ?hyr425 hHeld ?hr425
            case hir425 => (simp only [gAx, gSx, gZx]; rfl)
            case hQr425 => exact fun _ _ _ h => h
            case hyr425 => exact Or.inl ⟨by rfl, by intro w_ hSw; have h_ := y22_3 hSw.1; first | (go_simp; done) | (go_simp; with_reducible rfl)⟩
            try simp only [Act.put, sAx, sZx, sSx]
            refine wpAnyH_ready (rs := [26]) (by kernel_rfl) (by simp) ?_
            refine AllReadyH.cons (o := ?ocr426) ?hcr426 (fun K hK => ?hkr426) AllReadyH.nil
            case hcr426 => (simp only [gAx, gSx, gZx]; rfl)
            go_simp
            go_at_call 19
            refine (spec_l1In.calls cn 0 1000 _ _ HIN.out).mono ?_
            rintro e w_5 ⟨rfl, hd⟩
            have hb5 := Drawn0.below hd
            clear hd
            try dsimp only
            refine hK.out _ _ ⟨(hb5.block _ (lt_of_block (hHeld.1))).trans (hHeld.1), below_step (hHeld.2) hb5⟩ (fun hHeld => ?_)
            clear hK K
            try simp only [Act.put, sAx, sZx, sSx]
            refine wpAnyH_take (i := 27) (oi := ?oir427) (v := ?vr427) ?hir427 (by kernel_rfl) (by kernel_rfl) (by kernel_rfl) ?hQr427 ?hyr427 hHeld ?hr427
            case hir427 => (simp only [gAx, gSx, gZx]; rfl)
            case hQr427 => exact fun _ _ _ h => h
            case hyr427 => exact Or.inl ⟨by rfl, by intro w_ hSw; (try dsimp only at hSw); first | (go_simp; done) | (go_simp; with_reducible rfl)⟩
            try simp only [Act.put, sAx, sZx, sSx]
            refine wpAnyH_take (i := 28) (oi := ?oir428) (v := ?vr428) ?hir428 (by kernel_rfl) (by kernel_rfl) (by kernel_rfl) ?hQr428 ?hyr428 hHeld ?hr428
            case hir428 => (simp only [gAx, gSx, gZx]; rfl)
            case hQr428 => exact fun _ _ _ h => h
            case hyr428 => exact Or.inl ⟨by rfl, by intro w_ hSw; (try dsimp only at hSw); first | (go_simp; done) | (go_simp; with_reducible rfl)⟩
            try simp only [Act.put, sAx, sZx, sSx]
            refine wpAnyH_done (by kernel_rfl) ?_ _
            go_wp2
            go_ret
            exact ⟨rfl, below_step HBW.out (hHeld.2)⟩

end Go.Proofs.YtdeklpmmdakbeaaDoor.Xv
