-- Written by this session's own program (xprint.py) over the kit's print.py: functions, contracts and rows of the laws of one seat.
import Derived.Test.YtaoecbpfocillaaGreatZoXdz0
namespace Go.Proofs.YtaoecbpfocillaaGreat.Xdz
open Go.RowKit Go.Proofs.YtaoecbpfocillaaGreatW.PrintWords Go.Proofs.YtaoecbpfocillaaGreatW.PrintLast Go.Proofs.YtaoecbpfocillaaGreatW.PrintMore
attribute [local go_sem] max2_int min2_int max_two min_two max_three min_three max_four min_four -- for this text's walks alone
set_option linter.unusedVariables false
set_option linter.unusedSimpArgs false

/-! ### spec_l2To: function 49 -/
mutual
def spec_l2To.l0:Nat→List Int→List Int→ByteArray→List Int→Int→Int→Option (ByteArray × Bool)
 |0,_,_,_,_,_,_=>none
 |k+1,x0,x1,x6,x7,x8,x9=>if x9 < (x1.length:Int) then (spec_l2To.l1 k x0 x1 x6 x7 x8 x9) else (some (x6,true))
def spec_l2To.l1:Nat→List Int→List Int→ByteArray→List Int→Int→Int→Option (ByteArray × Bool)
 |0,_,_,_,_,_,_=>none
 |k+1,x0,x1,x6,x7,x8,x9=>if x8 < (x0.length:Int) then (if (x7.length:Int)=0 then (if 0≤x8 then (if x7.length < 17592186044416 then (if x6.size+1≤9223372036854775807 then (spec_l2To.l1 k x0 x1 (x6++(⟨#[73]⟩:ByteArray)) (x7++[rd x0 x8]) (wrap64 (x8+1)) x9) else (none)) else (none)) else (none)) else (if 0≤(wrap64 ((x7.length:Int) - 1)) then (if (wrap64 ((x7.length:Int) - 1)) < (x7.length:Int) then (if 0≤x9 then (if x9 < (x1.length:Int) then (if (rd x7 (wrap64 ((x7.length:Int) - 1)))=(rd x1 x9) then (if (wrap64 ((x7.length:Int) - 1))≤(x7.length:Int) then (if x6.size+1≤9223372036854775807 then (spec_l2To.l0 k x0 x1 (x6++(⟨#[79]⟩:ByteArray)) (x7.take ((wrap64 ((x7.length:Int) - 1)):Int).toNat) x8 (wrap64 (x9+1))) else (none)) else (none)) else (if 0≤x8 then (if x7.length < 17592186044416 then (if x6.size+1≤9223372036854775807 then (spec_l2To.l1 k x0 x1 (x6++(⟨#[73]⟩:ByteArray)) (x7++[rd x0 x8]) (wrap64 (x8+1)) x9) else (none)) else (none)) else (none))) else (none)) else (none)) else (none)) else (none))) else (if 0≤(wrap64 ((x7.length:Int) - 1)) then (if (wrap64 ((x7.length:Int) - 1)) < (x7.length:Int) then (if 0≤x9 then (if x9 < (x1.length:Int) then (if (rd x7 (wrap64 ((x7.length:Int) - 1)))=(rd x1 x9) then (if (wrap64 ((x7.length:Int) - 1))≤(x7.length:Int) then (if x6.size+1≤9223372036854775807 then (spec_l2To.l0 k x0 x1 (x6++(⟨#[79]⟩:ByteArray)) (x7.take ((wrap64 ((x7.length:Int) - 1)):Int).toNat) x8 (wrap64 (x9+1))) else (none)) else (none)) else (some ((⟨#[]⟩:ByteArray),false))) else (none)) else (none)) else (none)) else (none))
end
def spec_l2To.f (k:Nat) (l0:List Int) (l1:List Int):Option (ByteArray × Bool):=spec_l2To.l0 k l0 l1 (⟨#[]⟩:ByteArray) (([]:List Int)) 0 0
theorem spec_l2To.mono_l:∀ k,(∀ y0 y1 y2 y3 y4 y5,LeO (spec_l2To.l0 k y0 y1 y2 y3 y4 y5) (spec_l2To.l0 (k+1) y0 y1 y2 y3 y4 y5))∧(∀ y0 y1 y2 y3 y4 y5,LeO (spec_l2To.l1 k y0 y1 y2 y3 y4 y5) (spec_l2To.l1 (k+1) y0 y1 y2 y3 y4 y5))
 |0=>⟨fun _ _ _ _ _ _ r h=>by simp [spec_l2To.l0] at h,fun _ _ _ _ _ _ r h=>by simp [spec_l2To.l1] at h⟩
 |k+1=>by
  obtain ⟨ih0,ih1⟩:=spec_l2To.mono_l k;refine ⟨?_,?_⟩
  ·intro y0 y1 y2 y3 y4 y5;unfold spec_l2To.l0
   repeat' first
   |(with_reducible exact ih0 _ _ _ _ _ _)
   |(with_reducible exact ih1 _ _ _ _ _ _)
   |(with_reducible exact LeO.refl _)
   |(with_reducible exact LeO.none _)
   |(with_reducible refine LeO.ite ?_ ?_)
   |(with_reducible refine LeO.bind ?_ (fun _=>?_))
   |exact ih0 _ _ _ _ _ _
   |exact ih1 _ _ _ _ _ _
   |exact LeO.none _
   |refine LeO.ite ?_ ?_
   |refine LeO.bind ?_ (fun _=>?_)
  ·intro y0 y1 y2 y3 y4 y5;unfold spec_l2To.l1
   repeat' first
   |(with_reducible exact ih0 _ _ _ _ _ _)
   |(with_reducible exact ih1 _ _ _ _ _ _)
   |(with_reducible exact LeO.refl _)
   |(with_reducible exact LeO.none _)
   |(with_reducible refine LeO.ite ?_ ?_)
   |(with_reducible refine LeO.bind ?_ (fun _=>?_))
   |exact ih0 _ _ _ _ _ _
   |exact ih1 _ _ _ _ _ _
   |exact LeO.none _
   |refine LeO.ite ?_ ?_
   |refine LeO.bind ?_ (fun _=>?_)
theorem spec_l2To.mono:∀ a0 a1 k,LeO (spec_l2To.f k a0 a1) (spec_l2To.f (k+1) a0 a1):=by
 intro a0 a1 k;obtain ⟨ih0,ih1⟩:=spec_l2To.mono_l k;unfold spec_l2To.f
 repeat' first
   |(with_reducible exact ih0 _ _ _ _ _ _)
   |(with_reducible exact ih1 _ _ _ _ _ _)
   |(with_reducible exact LeO.refl _)
   |(with_reducible exact LeO.none _)
   |(with_reducible refine LeO.ite ?_ ?_)
   |(with_reducible refine LeO.bind ?_ (fun _=>?_))
   |exact ih0 _ _ _ _ _ _
   |exact ih1 _ _ _ _ _ _
   |exact LeO.none _
   |refine LeO.ite ?_ ?_
   |refine LeO.bind ?_ (fun _=>?_)
set_option maxHeartbeats 8000000 in
set_option maxRecDepth 100000 in
theorem spec_l2To.calls (k:Nat) (A0:Option Addr) (c0:Nat) (l0:List Int) (A1:Option Addr) (c1:Nat) (l1:List Int) (r1:ByteArray) (r2:Bool) (w:World) (hr0:Kd.C (Kd.int .i64) w A0 l0.length l0) (hc0:l0.length≤c0) (hr1:Kd.C (Kd.int .i64) w A1 l1.length l1) (hc1:l1.length≤c1) (h:spec_l2To.f k l0 l1=some (r1,r2)):
  Calls Tryz.prog 49 #[.slice A0 l0.length c0,.slice A1 l1.length c1] w fun e w'=>e=.returned (.tuple #[.string r1,.bool r2])∧Below w.heap.size w w':=by
 have HR0:=qA hr0;have HC0:=qA hc0;clear hr0 hc0;have HR1:=qA hr1;have HC1:=qA hc1;clear hr1 hc1;have HB:=qA (Below.refl w.heap.size w);have H:(spec_l2To.l0 k l0 l1 (⟨#[]⟩:ByteArray) (([]:List Int)) 0 0)=some (r1,r2):=h;clear h
 obtain ⟨y261,hy261⟩:∃ y_:List Int,y_=(([]:List Int)):=⟨_,rfl⟩
 replace H:(spec_l2To.l0 k l0 l1 (⟨#[]⟩:ByteArray) y261 0 0)=some (r1,r2):=by first|(rw [hy261];with_reducible exact H)|(have H2_:=(Option.bind_some _ _).symm.trans H;rw [hy261];with_reducible exact H2_)|(have H2_:=(Option.bind_some _ _).symm.trans H;with_reducible exact H2_)|with_reducible exact H|(rw [hy261];exact H)|exact H
 have Ny261:=qA hy261;clear hy261;have H':=qA H;clear H;go_enter Tryz.func49,Tryz.ntmps49
 go_wp2_with (first|((with_reducible refine gate_dst (N:=10) rfl ?_);(try (refine gate_guard (by rfl) ?_;dsimp only));refine Kd.R_lit (Kd.int .i64) _ 3 ?hg (N:=10) ?hd (xs:=([]:List Int)) (inner:=[]) (ok:=fun _=>True) (okp:=fun _=>True) ?hr ?hp (fun _ hk=>hk) trivial (Below.refl _ _) (Nat.le_refl _) (by simp) ?_;(case hd=>rfl);(case hg=>rfl);(case hr=>first|(go_simp;done)|(go_simp;rfl));(case hp=>exact (Reps.none _ _));intro v262 w3 ho4 hb hg_ hnew_;clear hg_ hnew_;(first|rw [← Ny261.out] at ho4|(simp only [Int.reduceToNat] at ho4;rw [← Ny261.out] at ho4));have n0_:=qA (Kd.R_lower ho4 (below_size qy33));have n1_:=qA (below_step qy33 hb);clear HB;have HO263:=n0_;have HB:=n1_;clear n0_ n1_;clear hb ho4))
 repeat (go_quiet (first|((with_reducible refine gate_dst (N:=10) rfl ?_);(try (refine gate_guard (by rfl) ?_;dsimp only));refine Kd.R_lit (Kd.int .i64) _ 3 ?hg (N:=10) ?hd (xs:=([]:List Int)) (inner:=[]) (ok:=fun _=>True) (okp:=fun _=>True) ?hr ?hp (fun _ hk=>hk) trivial (Below.refl _ _) (Nat.le_refl _) (by simp) ?_;(case hd=>rfl);(case hg=>rfl);(case hr=>first|(go_simp;done)|(go_simp;rfl));(case hp=>exact (Reps.none _ _));intro v262 w3 ho4 hb hg_ hnew_;clear hg_ hnew_;(first|rw [← Ny261.out] at ho4|(simp only [Int.reduceToNat] at ho4;rw [← Ny261.out] at ho4));have n0_:=qA (Kd.R_lower ho4 (below_size qy33));have n1_:=qA (below_step qy33 hb);clear HB;have HO263:=n0_;have HB:=n1_;clear n0_ n1_;clear hb ho4));try go_wp2_with (first|((with_reducible refine gate_dst (N:=10) rfl ?_);(try (refine gate_guard (by rfl) ?_;dsimp only));refine Kd.R_lit (Kd.int .i64) _ 3 ?hg (N:=10) ?hd (xs:=([]:List Int)) (inner:=[]) (ok:=fun _=>True) (okp:=fun _=>True) ?hr ?hp (fun _ hk=>hk) trivial (Below.refl _ _) (Nat.le_refl _) (by simp) ?_;(case hd=>rfl);(case hg=>rfl);(case hr=>first|(go_simp;done)|(go_simp;rfl));(case hp=>exact (Reps.none _ _));intro v262 w3 ho4 hb hg_ hnew_;clear hg_ hnew_;(first|rw [← Ny261.out] at ho4|(simp only [Int.reduceToNat] at ho4;rw [← Ny261.out] at ho4));have n0_:=qA (Kd.R_lower ho4 (below_size qy33));have n1_:=qA (below_step qy33 hb);clear HB;have HO263:=n0_;have HB:=n1_;clear n0_ n1_;clear hb ho4)))
 go_loopg [6,7,8,9] k (fun kq v6 v7 v8 v9 w'=>∃ (x6_1:ByteArray) (x7_1:List Int) (x8_1:Int) (x9_1:Int),v6=.string x6_1∧v8=.int .i64 x8_1∧v9=.int .i64 x9_1∧Aside0 (spec_l2To.l0 kq l0 l1 x6_1 x7_1 x8_1 x9_1=some (r1,r2))∧Aside0 (kq≤k)∧Aside0 (Kd.R (Kd.int .i64) 3 w' w.heap.size (fun _=>True) v7 x7_1)∧Aside0 (Below w.heap.size w w'))
 case atStart=>exact ⟨((⟨#[]⟩:ByteArray)),(y261),(0),(0),qy76,qy76,qy76,H',⟨Nat.le_refl _⟩,⟨(by (with_reducible repeat (first|apply Kd.R_alloc|apply Kd.R_drewN|apply Kd.R_drew));exact HO263.out)⟩,⟨qy33⟩⟩
 case round=>
  clear H'
  try clear c1
  try clear p2
  try clear c4
  obtain ⟨x6_1,x7_1,x8_1,x9_1,rfl,rfl,rfl,HA,HK1,HO_7,HB⟩:=hrel
  cases gk with
  |zero=>exact absurd HA.out (by simp [spec_l2To.l0])
  |succ k1=>
   have H:=HA.out;clear HA;simp only [spec_l2To.l0] at H;by_cases c5:x9_1 < (l1.length:Int)
   ·rw [if_pos c5] at H;have c5b0:decide (x9_1 < (l1.length:Int))=true:=decide_eq_true c5;clear c5;have H':=qA H;clear H
    go_wp2
    repeat (go_quiet (fail);try go_wp2)
    go_loopg [6,7,8] k1 (fun kq v6 v7 v8 w'=>∃ (x6_2:ByteArray) (x7_2:List Int) (x8_2:Int),v6=.string x6_2∧v8=.int .i64 x8_2∧Aside0 (spec_l2To.l1 kq l0 l1 x6_2 x7_2 x8_2 x9_1=some (r1,r2))∧Aside0 (kq≤k1)∧Aside0 (Kd.R (Kd.int .i64) 3 w' w.heap.size (fun _=>True) v7 x7_2)∧Aside0 (Below w.heap.size w w'))
    case atStart=>exact ⟨(x6_1),(x7_1),(x8_1),qy76,qy76,H',⟨Nat.le_refl _⟩,⟨qy60⟩,⟨qy33⟩⟩
    case round=>
     clear H'
     try clear c1
     try clear p2
     try clear c4
     try clear c5
     try clear c5b0
     try clear p2
     obtain ⟨x6_2,x7_2,x8_2,rfl,rfl,HA,HK2,HO_7,HB⟩:=hrel
     cases gk with
     |zero=>exact absurd HA.out (by simp [spec_l2To.l1])
     |succ k2=>
      have H:=HA.out;clear HA;simp only [spec_l2To.l1] at H;by_cases c6:x8_2 < (l0.length:Int)
      ·rw [if_pos c6] at H;have c6b0:decide (x8_2 < (l0.length:Int))=true:=decide_eq_true c6;clear c6;by_cases c7:(x7_2.length:Int)=0
       ·rw [if_pos c7] at H;have c7b0:((x7_2.length:Int)==0)=true:=beq_iff_eq.mpr c7;have c7b1:((x7_2.length:Int) != 0)=false:=bne_eq_false_iff_eq.mpr c7;clear c7;by_cases c8:0≤x8_2
        ·rw [if_pos c8] at H;have c8b0:decide (0≤x8_2)=true:=decide_eq_true c8;clear c8;by_cases c9:x7_2.length < 17592186044416
         ·rw [if_pos c9] at H;have LMc9:=qA c9;clear c9
          obtain ⟨y265,hy265⟩:∃ y_:List Int,y_=(x7_2++[rd l0 x8_2]):=⟨_,rfl⟩
          replace H:(if x6_2.size+1≤9223372036854775807 then (spec_l2To.l1 k2 l0 l1 (x6_2++(⟨#[73]⟩:ByteArray)) y265 (wrap64 (x8_2+1)) x9_1) else (none))=some (r1,r2):=by first|(rw [hy265];with_reducible exact H)|(have H2_:=(Option.bind_some _ _).symm.trans H;rw [hy265];with_reducible exact H2_)|(have H2_:=(Option.bind_some _ _).symm.trans H;with_reducible exact H2_)|with_reducible exact H|(rw [hy265];exact H)|exact H
          have Ny265:=qA hy265;clear hy265;by_cases c10:x6_2.size+1≤9223372036854775807
          ·rw [if_pos c10] at H;have c10b0:=eq_true c10;have c10b1:decide (x6_2.size+1≤9223372036854775807)=true:=decide_eq_true c10
           try have c10b2:(9223372036854775807 < x6_2.size+1)=False:=eq_false (Nat.not_lt.2 c10)
           have H':=qA H;clear H;obtain ⟨Ao11,co11,eo11⟩:=Kd.R_slice HO_7.out;subst eo11;have p264:0≤(x8_2:Int):=of_decide_eq_true qy73;have q264:x8_2 < (l0.length:Int):=of_decide_eq_true qy73;obtain ⟨ad264,e264,hx264_0⟩:=Kd.at_int HR0.out x8_2 p264 q264;cases e264;replace hx264_0:=(HB.out.cell (World.block_lt_of_cell? w _ hx264_0)).trans hx264_0;replace p264:=eq_true p264;replace q264:=eq_true q264
           go_wp2_with (first|((with_reducible refine gate_builtin (b:=.append) (xs:= #[.tmp 39,.tmp 44]) rfl ?_);(try (refine gate_guard (by rfl) ?_;dsimp only));at_builtin;refine Kd.R_append (Kd.int .i64) (w0:=w) w.heap.size rfl (.tmp 39) (.tmp 44) 36 3 (.int .i64 0) 8 rfl Tryz.underlying36 info3 rfl (by decide) (by omega) (.slice Ao11 x7_2.length co11) x7_2 (rd l0 x8_2) [.int .i64 (rd l0 x8_2)] (fun _=>True) (fun _=>False) rfl rfl ?aP (fun _ hk=>hk.elim) ?aF ?aO ?aB ?aS ?aL ?_;(case aP=>exact rfl);(case aB=>exact qy33);(case aF=>exact (fun _ _=>trivial));(case aO=>exact qy60);(case aS=>exact (below_size qy33));(case aL=>have:=LMc9.out;omega);intro v266 w12 ho hb hg hat;rw [← Ny265.out] at ho;have n0_:=qA (hb);have n1_:=qA (ho);clear HB;clear HO_7;have HB:=n0_;have HO267:=n1_;clear n0_ n1_;clear ho hb hg hat))
           repeat (go_quiet (first|((with_reducible refine gate_builtin (b:=.append) (xs:= #[.tmp 39,.tmp 44]) rfl ?_);(try (refine gate_guard (by rfl) ?_;dsimp only));at_builtin;refine Kd.R_append (Kd.int .i64) (w0:=w) w.heap.size rfl (.tmp 39) (.tmp 44) 36 3 (.int .i64 0) 8 rfl Tryz.underlying36 info3 rfl (by decide) (by omega) (.slice Ao11 x7_2.length co11) x7_2 (rd l0 x8_2) [.int .i64 (rd l0 x8_2)] (fun _=>True) (fun _=>False) rfl rfl ?aP (fun _ hk=>hk.elim) ?aF ?aO ?aB ?aS ?aL ?_;(case aP=>exact rfl);(case aB=>exact qy33);(case aF=>exact (fun _ _=>trivial));(case aO=>exact qy60);(case aS=>exact (below_size qy33));(case aL=>have:=LMc9.out;omega);intro v266 w12 ho hb hg hat;rw [← Ny265.out] at ho;have n0_:=qA (hb);have n1_:=qA (ho);clear HB;clear HO_7;have HB:=n0_;have HO267:=n1_;clear n0_ n1_;clear ho hb hg hat));try go_wp2_with (first|((with_reducible refine gate_builtin (b:=.append) (xs:= #[.tmp 39,.tmp 44]) rfl ?_);(try (refine gate_guard (by rfl) ?_;dsimp only));at_builtin;refine Kd.R_append (Kd.int .i64) (w0:=w) w.heap.size rfl (.tmp 39) (.tmp 44) 36 3 (.int .i64 0) 8 rfl Tryz.underlying36 info3 rfl (by decide) (by omega) (.slice Ao11 x7_2.length co11) x7_2 (rd l0 x8_2) [.int .i64 (rd l0 x8_2)] (fun _=>True) (fun _=>False) rfl rfl ?aP (fun _ hk=>hk.elim) ?aF ?aO ?aB ?aS ?aL ?_;(case aP=>exact rfl);(case aB=>exact qy33);(case aF=>exact (fun _ _=>trivial));(case aO=>exact qy60);(case aS=>exact (below_size qy33));(case aL=>have:=LMc9.out;omega);intro v266 w12 ho hb hg hat;rw [← Ny265.out] at ho;have n0_:=qA (hb);have n1_:=qA (ho);clear HB;clear HO_7;have HB:=n0_;have HO267:=n1_;clear n0_ n1_;clear ho hb hg hat)))
           go_roundg k2
           case measure=>have:=HK1.out;have:=HK2.out;omega
           case rel=>exact ⟨(x6_2++(⟨#[73]⟩:ByteArray)),(y265),(wrap64 (x8_2+1)),qy76,qy76,H',⟨qy78⟩,⟨(by (with_reducible repeat (first|apply Kd.R_alloc|apply Kd.R_drewN|apply Kd.R_drew));exact HO267.out)⟩,⟨qy33⟩⟩
          ·rw [if_neg c10] at H;exact absurd H (by simp)
         ·rw [if_neg c9] at H;exact absurd H (by simp)
        ·rw [if_neg c8] at H;exact absurd H (by simp)
       ·rw [if_neg c7] at H;have c7b0:((x7_2.length:Int)==0)=false:=beq_eq_false_iff_ne.mpr c7;have c7b1:((x7_2.length:Int) != 0)=true:=bne_iff_ne.mpr c7;have c7b2:¬ (x7_2=[]):=fun h_=>c7 (by rw [h_];rfl)
        obtain ⟨ji13,hji13⟩:∃ j_:Int,(wrap64 ((x7_2.length:Int) - 1))=j_:=⟨_,rfl⟩
        replace H:(if 0≤(ji13) then (if (ji13) < (x7_2.length:Int) then (if 0≤x9_1 then (if x9_1 < (l1.length:Int) then (if (rd x7_2 (ji13))=(rd l1 x9_1) then (if (ji13)≤(x7_2.length:Int) then (if x6_2.size+1≤9223372036854775807 then (spec_l2To.l0 k2 l0 l1 (x6_2++(⟨#[79]⟩:ByteArray)) (x7_2.take ((ji13):Int).toNat) x8_2 (wrap64 (x9_1+1))) else (none)) else (none)) else (if 0≤x8_2 then (if x7_2.length < 17592186044416 then (if x6_2.size+1≤9223372036854775807 then (spec_l2To.l1 k2 l0 l1 (x6_2++(⟨#[73]⟩:ByteArray)) (x7_2++[rd l0 x8_2]) (wrap64 (x8_2+1)) x9_1) else (none)) else (none)) else (none))) else (none)) else (none)) else (none)) else (none))=some (r1,r2):=by first|(rw [hji13] at H;exact H)|(simp only [hji13] at H ⊢;exact H)
        have hji13w:(IntKind.i64.wrap ((x7_2.length:Int) - 1))=ji13:=(i64_w _).trans hji13;by_cases c14:0≤(ji13)
        ·rw [if_pos c14] at H;have c14b0:decide (0≤(ji13))=true:=decide_eq_true c14;clear c14;by_cases c15:(ji13) < (x7_2.length:Int)
         ·rw [if_pos c15] at H;have c15b0:decide ((ji13) < (x7_2.length:Int))=true:=decide_eq_true c15;clear c15;by_cases c16:0≤x9_1
          ·rw [if_pos c16] at H;have c16b0:decide (0≤x9_1)=true:=decide_eq_true c16;clear c16;by_cases c17:x9_1 < (l1.length:Int)
           ·rw [if_pos c17] at H;have c17b0:decide (x9_1 < (l1.length:Int))=true:=decide_eq_true c17;clear c17;by_cases c18:(rd x7_2 (ji13))=(rd l1 x9_1)
            ·rw [if_pos c18] at H;have c18b0:((rd x7_2 (ji13))==(rd l1 x9_1))=true:=beq_iff_eq.mpr c18;have c18b1:((rd x7_2 (ji13)) != (rd l1 x9_1))=false:=bne_eq_false_iff_eq.mpr c18;clear c18;by_cases c19:(ji13)≤(x7_2.length:Int)
             ·rw [if_pos c19] at H;have c19b0:=eq_true c19;have c19b1:decide ((ji13)≤(x7_2.length:Int))=true:=decide_eq_true c19;clear c19
              obtain ⟨y272,hy272⟩:∃ y_:List Int,y_=(x7_2.take ((ji13):Int).toNat):=⟨_,rfl⟩
              replace H:(if x6_2.size+1≤9223372036854775807 then (spec_l2To.l0 k2 l0 l1 (x6_2++(⟨#[79]⟩:ByteArray)) y272 x8_2 (wrap64 (x9_1+1))) else (none))=some (r1,r2):=by first|(rw [hy272];with_reducible exact H)|(have H2_:=(Option.bind_some _ _).symm.trans H;rw [hy272];with_reducible exact H2_)|(have H2_:=(Option.bind_some _ _).symm.trans H;with_reducible exact H2_)|with_reducible exact H|(rw [hy272];exact H)|exact H
              have Ny272:=qA hy272;clear hy272;by_cases c20:x6_2.size+1≤9223372036854775807
              ·rw [if_pos c20] at H;have c20b0:=eq_true c20;have c20b1:decide (x6_2.size+1≤9223372036854775807)=true:=decide_eq_true c20
               try have c20b2:(9223372036854775807 < x6_2.size+1)=False:=eq_false (Nat.not_lt.2 c20)
               have H':=qA H;clear H;obtain ⟨Ao21,co21,eo21⟩:=Kd.R_slice HO_7.out;subst eo21;have p268:0≤((ji13):Int):=of_decide_eq_true qy73;have q268:(ji13) < (x7_2.length:Int):=of_decide_eq_true qy73;obtain ⟨ad268,e268,hx268_0⟩:=Kd.at_int (Kd.R_reads' HO_7.out).2.2 (ji13) p268 q268;cases e268;replace p268:=eq_true p268;replace q268:=eq_true q268;have p269:0≤(x9_1:Int):=of_decide_eq_true qy73;have q269:x9_1 < (l1.length:Int):=of_decide_eq_true qy73;obtain ⟨ad269,e269,hx269_0⟩:=Kd.at_int HR1.out x9_1 p269 q269;cases e269;replace hx269_0:=(HB.out.cell (World.block_lt_of_cell? w _ hx269_0)).trans hx269_0;replace p269:=eq_true p269;replace q269:=eq_true q269;have p270:0≤((ji13):Int):=of_decide_eq_true qy73;have q270:(ji13) < (x7_2.length:Int):=of_decide_eq_true qy73;obtain ⟨ad270,e270,hx270_0⟩:=Kd.at_int (Kd.R_reads' HO_7.out).2.2 (ji13) p270 q270
               obtain rfl:ad268=ad270:=(by injection e270)
               replace p270:=eq_true p270;replace q270:=eq_true q270;have p271:0≤(x9_1:Int):=of_decide_eq_true qy73;have q271:x9_1 < (l1.length:Int):=of_decide_eq_true qy73;obtain ⟨ad271,e271,hx271_0⟩:=Kd.at_int HR1.out x9_1 p271 q271
               obtain rfl:ad269=ad271:=(by injection e271)
               replace hx271_0:=(HB.out.cell (World.block_lt_of_cell? w _ hx271_0)).trans hx271_0;replace p271:=eq_true p271;replace q271:=eq_true q271;have q22:((ji13):Int)≤((x7_2.length:Int):Int):=of_decide_eq_true qy73;obtain ⟨i022,hi022,_,hsz22,_⟩:=info_parts info3;have hcut22:=cut_to (P:=Tryz.prog) 36 3 .i64 Tryz.underlying36 hi022 (some ad268) x7_2.length co21 (ji13) (of_decide_eq_true qy73) q22 (Kd.R_reads' HO_7.out).2.1;have hr22:=Kd.R_take (m:=((ji13):Int).toNat) HO_7.out (by omega)
               have hy22:y272.length=((ji13):Int).toNat:=(by rw [Ny272.out,List.length_take];omega)
               rw [← Ny272.out] at hr22;rw [← hy22] at hr22 hcut22;clear hy22 hi022 hsz22 HO_7;have HO274:=qA hr22;clear hr22;replace q22:=eq_true q22
               go_wp2
               repeat (go_quiet (fail);try go_wp2)
               go_roundg k2
               case measure=>have:=HK1.out;have:=HK2.out;omega
               case rel=>exact ⟨(x6_2++(⟨#[79]⟩:ByteArray)),(y272),(x8_2),(wrap64 (x9_1+1)),qy76,qy76,qy76,H',⟨qy78⟩,⟨(by (with_reducible repeat (first|apply Kd.R_alloc|apply Kd.R_drewN|apply Kd.R_drew));exact HO274.out)⟩,⟨qy33⟩⟩
              ·rw [if_neg c20] at H;exact absurd H (by simp)
             ·rw [if_neg c19] at H;exact absurd H (by simp)
            ·rw [if_neg c18] at H;have c18b0:((rd x7_2 (ji13))==(rd l1 x9_1))=false:=beq_eq_false_iff_ne.mpr c18;have c18b1:((rd x7_2 (ji13)) != (rd l1 x9_1))=true:=bne_iff_ne.mpr c18;by_cases c23:0≤x8_2
             ·rw [if_pos c23] at H;have c23b0:decide (0≤x8_2)=true:=decide_eq_true c23;clear c23;by_cases c24:x7_2.length < 17592186044416
              ·rw [if_pos c24] at H;have LMc24:=qA c24;clear c24
               obtain ⟨y276,hy276⟩:∃ y_:List Int,y_=(x7_2++[rd l0 x8_2]):=⟨_,rfl⟩
               replace H:(if x6_2.size+1≤9223372036854775807 then (spec_l2To.l1 k2 l0 l1 (x6_2++(⟨#[73]⟩:ByteArray)) y276 (wrap64 (x8_2+1)) x9_1) else (none))=some (r1,r2):=by first|(rw [hy276];with_reducible exact H)|(have H2_:=(Option.bind_some _ _).symm.trans H;rw [hy276];with_reducible exact H2_)|(have H2_:=(Option.bind_some _ _).symm.trans H;with_reducible exact H2_)|with_reducible exact H|(rw [hy276];exact H)|exact H
               have Ny276:=qA hy276;clear hy276;by_cases c25:x6_2.size+1≤9223372036854775807
               ·rw [if_pos c25] at H;have c25b0:=eq_true c25;have c25b1:decide (x6_2.size+1≤9223372036854775807)=true:=decide_eq_true c25
                try have c25b2:(9223372036854775807 < x6_2.size+1)=False:=eq_false (Nat.not_lt.2 c25)
                have H':=qA H;clear H;obtain ⟨Ao26,co26,eo26⟩:=Kd.R_slice HO_7.out;subst eo26;have p268:0≤((ji13):Int):=of_decide_eq_true qy73;have q268:(ji13) < (x7_2.length:Int):=of_decide_eq_true qy73;obtain ⟨ad268,e268,hx268_0⟩:=Kd.at_int (Kd.R_reads' HO_7.out).2.2 (ji13) p268 q268;cases e268;replace p268:=eq_true p268;replace q268:=eq_true q268;have p269:0≤(x9_1:Int):=of_decide_eq_true qy73;have q269:x9_1 < (l1.length:Int):=of_decide_eq_true qy73;obtain ⟨ad269,e269,hx269_0⟩:=Kd.at_int HR1.out x9_1 p269 q269;cases e269;replace hx269_0:=(HB.out.cell (World.block_lt_of_cell? w _ hx269_0)).trans hx269_0;replace p269:=eq_true p269;replace q269:=eq_true q269;have p275:0≤(x8_2:Int):=of_decide_eq_true qy73;have q275:x8_2 < (l0.length:Int):=of_decide_eq_true qy73;obtain ⟨ad275,e275,hx275_0⟩:=Kd.at_int HR0.out x8_2 p275 q275;cases e275;replace hx275_0:=(HB.out.cell (World.block_lt_of_cell? w _ hx275_0)).trans hx275_0;replace p275:=eq_true p275;replace q275:=eq_true q275
                go_wp2_with (first|((with_reducible refine gate_builtin (b:=.append) (xs:= #[.tmp 39,.tmp 44]) rfl ?_);(try (refine gate_guard (by rfl) ?_;dsimp only));at_builtin;refine Kd.R_append (Kd.int .i64) (w0:=w) w.heap.size rfl (.tmp 39) (.tmp 44) 36 3 (.int .i64 0) 8 rfl Tryz.underlying36 info3 rfl (by decide) (by omega) (.slice (some ad268) x7_2.length co26) x7_2 (rd l0 x8_2) [.int .i64 (rd l0 x8_2)] (fun _=>True) (fun _=>False) rfl rfl ?aP (fun _ hk=>hk.elim) ?aF ?aO ?aB ?aS ?aL ?_;(case aP=>exact rfl);(case aB=>exact qy33);(case aF=>exact (fun _ _=>trivial));(case aO=>exact qy60);(case aS=>exact (below_size qy33));(case aL=>have:=LMc24.out;omega);intro v277 w27 ho hb hg hat;rw [← Ny276.out] at ho;have n0_:=qA (hb);have n1_:=qA (ho);clear HB;clear HO_7;have HB:=n0_;have HO278:=n1_;clear n0_ n1_;clear ho hb hg hat))
                repeat (go_quiet (first|((with_reducible refine gate_builtin (b:=.append) (xs:= #[.tmp 39,.tmp 44]) rfl ?_);(try (refine gate_guard (by rfl) ?_;dsimp only));at_builtin;refine Kd.R_append (Kd.int .i64) (w0:=w) w.heap.size rfl (.tmp 39) (.tmp 44) 36 3 (.int .i64 0) 8 rfl Tryz.underlying36 info3 rfl (by decide) (by omega) (.slice (some ad268) x7_2.length co26) x7_2 (rd l0 x8_2) [.int .i64 (rd l0 x8_2)] (fun _=>True) (fun _=>False) rfl rfl ?aP (fun _ hk=>hk.elim) ?aF ?aO ?aB ?aS ?aL ?_;(case aP=>exact rfl);(case aB=>exact qy33);(case aF=>exact (fun _ _=>trivial));(case aO=>exact qy60);(case aS=>exact (below_size qy33));(case aL=>have:=LMc24.out;omega);intro v277 w27 ho hb hg hat;rw [← Ny276.out] at ho;have n0_:=qA (hb);have n1_:=qA (ho);clear HB;clear HO_7;have HB:=n0_;have HO278:=n1_;clear n0_ n1_;clear ho hb hg hat));try go_wp2_with (first|((with_reducible refine gate_builtin (b:=.append) (xs:= #[.tmp 39,.tmp 44]) rfl ?_);(try (refine gate_guard (by rfl) ?_;dsimp only));at_builtin;refine Kd.R_append (Kd.int .i64) (w0:=w) w.heap.size rfl (.tmp 39) (.tmp 44) 36 3 (.int .i64 0) 8 rfl Tryz.underlying36 info3 rfl (by decide) (by omega) (.slice (some ad268) x7_2.length co26) x7_2 (rd l0 x8_2) [.int .i64 (rd l0 x8_2)] (fun _=>True) (fun _=>False) rfl rfl ?aP (fun _ hk=>hk.elim) ?aF ?aO ?aB ?aS ?aL ?_;(case aP=>exact rfl);(case aB=>exact qy33);(case aF=>exact (fun _ _=>trivial));(case aO=>exact qy60);(case aS=>exact (below_size qy33));(case aL=>have:=LMc24.out;omega);intro v277 w27 ho hb hg hat;rw [← Ny276.out] at ho;have n0_:=qA (hb);have n1_:=qA (ho);clear HB;clear HO_7;have HB:=n0_;have HO278:=n1_;clear n0_ n1_;clear ho hb hg hat)))
                go_roundg k2
                case measure=>have:=HK1.out;have:=HK2.out;omega
                case rel=>exact ⟨(x6_2++(⟨#[73]⟩:ByteArray)),(y276),(wrap64 (x8_2+1)),qy76,qy76,H',⟨qy78⟩,⟨(by (with_reducible repeat (first|apply Kd.R_alloc|apply Kd.R_drewN|apply Kd.R_drew));exact HO278.out)⟩,⟨qy33⟩⟩
               ·rw [if_neg c25] at H;exact absurd H (by simp)
              ·rw [if_neg c24] at H;exact absurd H (by simp)
             ·rw [if_neg c23] at H;exact absurd H (by simp)
           ·rw [if_neg c17] at H;exact absurd H (by simp)
          ·rw [if_neg c16] at H;exact absurd H (by simp)
         ·rw [if_neg c15] at H;exact absurd H (by simp)
        ·rw [if_neg c14] at H;exact absurd H (by simp)
      ·rw [if_neg c6] at H;have c6b0:decide (x8_2 < (l0.length:Int))=false:=decide_eq_false c6;clear c6
       obtain ⟨ji28,hji28⟩:∃ j_:Int,(wrap64 ((x7_2.length:Int) - 1))=j_:=⟨_,rfl⟩
       replace H:(if 0≤(ji28) then (if (ji28) < (x7_2.length:Int) then (if 0≤x9_1 then (if x9_1 < (l1.length:Int) then (if (rd x7_2 (ji28))=(rd l1 x9_1) then (if (ji28)≤(x7_2.length:Int) then (if x6_2.size+1≤9223372036854775807 then (spec_l2To.l0 k2 l0 l1 (x6_2++(⟨#[79]⟩:ByteArray)) (x7_2.take ((ji28):Int).toNat) x8_2 (wrap64 (x9_1+1))) else (none)) else (none)) else (some ((⟨#[]⟩:ByteArray),false))) else (none)) else (none)) else (none)) else (none))=some (r1,r2):=by first|(rw [hji28] at H;exact H)|(simp only [hji28] at H ⊢;exact H)
       have hji28w:(IntKind.i64.wrap ((x7_2.length:Int) - 1))=ji28:=(i64_w _).trans hji28;by_cases c29:0≤(ji28)
       ·rw [if_pos c29] at H;have c29b0:decide (0≤(ji28))=true:=decide_eq_true c29;clear c29;by_cases c30:(ji28) < (x7_2.length:Int)
        ·rw [if_pos c30] at H;have c30b0:decide ((ji28) < (x7_2.length:Int))=true:=decide_eq_true c30;clear c30;by_cases c31:0≤x9_1
         ·rw [if_pos c31] at H;have c31b0:decide (0≤x9_1)=true:=decide_eq_true c31;clear c31;by_cases c32:x9_1 < (l1.length:Int)
          ·rw [if_pos c32] at H;have c32b0:decide (x9_1 < (l1.length:Int))=true:=decide_eq_true c32;clear c32;by_cases c33:(rd x7_2 (ji28))=(rd l1 x9_1)
           ·rw [if_pos c33] at H;have c33b0:((rd x7_2 (ji28))==(rd l1 x9_1))=true:=beq_iff_eq.mpr c33;have c33b1:((rd x7_2 (ji28)) != (rd l1 x9_1))=false:=bne_eq_false_iff_eq.mpr c33;clear c33;by_cases c34:(ji28)≤(x7_2.length:Int)
            ·rw [if_pos c34] at H;have c34b0:=eq_true c34;have c34b1:decide ((ji28)≤(x7_2.length:Int))=true:=decide_eq_true c34;clear c34
             obtain ⟨y281,hy281⟩:∃ y_:List Int,y_=(x7_2.take ((ji28):Int).toNat):=⟨_,rfl⟩
             replace H:(if x6_2.size+1≤9223372036854775807 then (spec_l2To.l0 k2 l0 l1 (x6_2++(⟨#[79]⟩:ByteArray)) y281 x8_2 (wrap64 (x9_1+1))) else (none))=some (r1,r2):=by first|(rw [hy281];with_reducible exact H)|(have H2_:=(Option.bind_some _ _).symm.trans H;rw [hy281];with_reducible exact H2_)|(have H2_:=(Option.bind_some _ _).symm.trans H;with_reducible exact H2_)|with_reducible exact H|(rw [hy281];exact H)|exact H
             have Ny281:=qA hy281;clear hy281;by_cases c35:x6_2.size+1≤9223372036854775807
             ·rw [if_pos c35] at H;have c35b0:=eq_true c35;have c35b1:decide (x6_2.size+1≤9223372036854775807)=true:=decide_eq_true c35
              try have c35b2:(9223372036854775807 < x6_2.size+1)=False:=eq_false (Nat.not_lt.2 c35)
              have H':=qA H;clear H;obtain ⟨Ao36,co36,eo36⟩:=Kd.R_slice HO_7.out;subst eo36;have p279:0≤((ji28):Int):=of_decide_eq_true qy73;have q279:(ji28) < (x7_2.length:Int):=of_decide_eq_true qy73;obtain ⟨ad279,e279,hx279_0⟩:=Kd.at_int (Kd.R_reads' HO_7.out).2.2 (ji28) p279 q279;cases e279;replace p279:=eq_true p279;replace q279:=eq_true q279;have p280:0≤(x9_1:Int):=of_decide_eq_true qy73;have q280:x9_1 < (l1.length:Int):=of_decide_eq_true qy73;obtain ⟨ad280,e280,hx280_0⟩:=Kd.at_int HR1.out x9_1 p280 q280;cases e280;replace hx280_0:=(HB.out.cell (World.block_lt_of_cell? w _ hx280_0)).trans hx280_0;replace p280:=eq_true p280;replace q280:=eq_true q280;have q37:((ji28):Int)≤((x7_2.length:Int):Int):=of_decide_eq_true qy73;obtain ⟨i037,hi037,_,hsz37,_⟩:=info_parts info3;have hcut37:=cut_to (P:=Tryz.prog) 36 3 .i64 Tryz.underlying36 hi037 (some ad279) x7_2.length co36 (ji28) (of_decide_eq_true qy73) q37 (Kd.R_reads' HO_7.out).2.1;have hr37:=Kd.R_take (m:=((ji28):Int).toNat) HO_7.out (by omega)
              have hy37:y281.length=((ji28):Int).toNat:=(by rw [Ny281.out,List.length_take];omega)
              rw [← Ny281.out] at hr37;rw [← hy37] at hr37 hcut37;clear hy37 hi037 hsz37 HO_7;have HO283:=qA hr37;clear hr37;replace q37:=eq_true q37
              go_wp2
              repeat (go_quiet (fail);try go_wp2)
              go_roundg k2
              case measure=>have:=HK1.out;have:=HK2.out;omega
              case rel=>exact ⟨(x6_2++(⟨#[79]⟩:ByteArray)),(y281),(x8_2),(wrap64 (x9_1+1)),qy76,qy76,qy76,H',⟨qy78⟩,⟨(by (with_reducible repeat (first|apply Kd.R_alloc|apply Kd.R_drewN|apply Kd.R_drew));exact HO283.out)⟩,⟨qy33⟩⟩
             ·rw [if_neg c35] at H;exact absurd H (by simp)
            ·rw [if_neg c34] at H;exact absurd H (by simp)
           ·rw [if_neg c33] at H;have c33b0:((rd x7_2 (ji28))==(rd l1 x9_1))=false:=beq_eq_false_iff_ne.mpr c33;have c33b1:((rd x7_2 (ji28)) != (rd l1 x9_1))=true:=bne_iff_ne.mpr c33;simp only [Option.some.injEq,Prod.mk.injEq] at H;obtain ⟨rfl,rfl⟩:=H;obtain ⟨Ao38,co38,eo38⟩:=Kd.R_slice HO_7.out;subst eo38;have p279:0≤((ji28):Int):=of_decide_eq_true qy73;have q279:(ji28) < (x7_2.length:Int):=of_decide_eq_true qy73;obtain ⟨ad279,e279,hx279_0⟩:=Kd.at_int (Kd.R_reads' HO_7.out).2.2 (ji28) p279 q279;cases e279;replace p279:=eq_true p279;replace q279:=eq_true q279;have p280:0≤(x9_1:Int):=of_decide_eq_true qy73;have q280:x9_1 < (l1.length:Int):=of_decide_eq_true qy73;obtain ⟨ad280,e280,hx280_0⟩:=Kd.at_int HR1.out x9_1 p280 q280;cases e280;replace hx280_0:=(HB.out.cell (World.block_lt_of_cell? w _ hx280_0)).trans hx280_0;replace p280:=eq_true p280;replace q280:=eq_true q280
            go_wp2
            repeat (go_quiet (fail);try go_wp2)
            go_ret2;exact ⟨(by first|rfl|(simp [errW_none,errW_some]<;>rfl)|(simp only [← hji28];first|rfl|(simp [errW_none,errW_some]<;>rfl))|(simp [*,errW_none,errW_some]<;>rfl)),qy33⟩
          ·rw [if_neg c32] at H;exact absurd H (by simp)
         ·rw [if_neg c31] at H;exact absurd H (by simp)
        ·rw [if_neg c30] at H;exact absurd H (by simp)
       ·rw [if_neg c29] at H;exact absurd H (by simp)
   ·rw [if_neg c5] at H;have c5b0:decide (x9_1 < (l1.length:Int))=false:=decide_eq_false c5;clear c5;simp only [Option.some.injEq,Prod.mk.injEq] at H;obtain ⟨rfl,rfl⟩:=H
    go_wp2
    repeat (go_quiet (fail);try go_wp2)
    go_ret2;exact ⟨qy68,qy33⟩

/-! ### spec_l1Most: function 107 -/
def spec_l1Most.f (a0:Int) (a1:Int):Option (Int):=if a0 > a1 then (some a0) else (some a1)
set_option maxHeartbeats 8000000 in
set_option maxRecDepth 100000 in
theorem spec_l1Most.calls (a0:Int) (a1:Int) (r:Int) (w:World) (h:spec_l1Most.f a0 a1=some r):
  Calls Tryz.prog 107 #[.int .i64 a0,.int .i64 a1] w fun e w'=>e=.returned (.int .i64 r)∧Drawn0 w w':=by
 have H:(if a0 > a1 then (some a0) else (some a1))=some r:=h;clear h;by_cases c3:a0 > a1
 ·rw [if_pos c3] at H;have c3b0:decide (a1 < a0)=true:=decide_eq_true c3;clear c3;obtain rfl:=Option.some.inj H;go_enter Tryz.func107,Tryz.ntmps107
  go_wp2
  go_ret;exact ⟨qy76,qy71⟩
 ·rw [if_neg c3] at H;have c3b0:decide (a1 < a0)=false:=decide_eq_false c3;clear c3;obtain rfl:=Option.some.inj H;go_enter Tryz.func107,Tryz.ntmps107
  go_wp2
  go_ret;exact ⟨qy76,qy71⟩

/-! ### spec_l9Cut: function 51 -/
def spec_l9Cut.l0:Nat→Int→Int→Int→Int→Option (Int × Int)
 |0,_,_,_,_=>none
 |k+1,x0,x1,x5,x6=>if x6 > 0 then (if x6=0 then (none) else (spec_l9Cut.l0 k x0 x1 x6 (Int.tmod x5 x6))) else ((spec_l1Most.f x5 1).bind fun t285=>(if t285=0 then (none) else ((spec_l1Most.f x5 1).bind fun t286=>(if t286=0 then (none) else (some (wrap64 (Int.tdiv x0 t285),wrap64 (Int.tdiv x1 t286)))))))
def spec_l9Cut.f (k:Nat) (a0:Int) (a1:Int):Option (Int × Int):=spec_l9Cut.l0 k a0 a1 a0 a1
theorem spec_l9Cut.mono_l:∀ k,(∀ y0 y1 y2 y3,LeO (spec_l9Cut.l0 k y0 y1 y2 y3) (spec_l9Cut.l0 (k+1) y0 y1 y2 y3))
 |0=>fun _ _ _ _ r h=>by simp [spec_l9Cut.l0] at h
 |k+1=>by
  have ih0:=spec_l9Cut.mono_l k
  ·intro y0 y1 y2 y3;unfold spec_l9Cut.l0
   repeat' first
   |(with_reducible exact ih0 _ _ _ _)
   |(with_reducible exact LeO.refl _)
   |(with_reducible exact LeO.none _)
   |(with_reducible refine LeO.ite ?_ ?_)
   |(with_reducible refine LeO.bind ?_ (fun _=>?_))
   |exact ih0 _ _ _ _
   |exact LeO.none _
   |refine LeO.ite ?_ ?_
   |refine LeO.bind ?_ (fun _=>?_)
theorem spec_l9Cut.mono:∀ a0 a1 k,LeO (spec_l9Cut.f k a0 a1) (spec_l9Cut.f (k+1) a0 a1):=by
 intro a0 a1 k;have ih0:=spec_l9Cut.mono_l k;unfold spec_l9Cut.f
 repeat' first
   |(with_reducible exact ih0 _ _ _ _)
   |(with_reducible exact LeO.refl _)
   |(with_reducible exact LeO.none _)
   |(with_reducible refine LeO.ite ?_ ?_)
   |(with_reducible refine LeO.bind ?_ (fun _=>?_))
   |exact ih0 _ _ _ _
   |exact LeO.none _
   |refine LeO.ite ?_ ?_
   |refine LeO.bind ?_ (fun _=>?_)
def spec_l9Cut.T4:Bool × List (List Nat × List Nat):=(true,[([],[]),([],[]),([1],[1]),([0,2],[0,2]),([],[]),([],[]),([5,2],[5]),([4,6],[4,6]),([3,7],[3,7]),([8,6,0,1,2,3,4,5,6,7,8],[8])])
def spec_l9Cut.B4:List Nat:=[0,0,2,7,0,0,38,118,255,511]
theorem spec_l9Cut.tab4:rtab .any (opsOf Tryz.f51 4)=spec_l9Cut.T4:=by kernel_rfl
theorem spec_l9Cut.bits4:waitsOk spec_l9Cut.T4.2 spec_l9Cut.B4=true:=by kernel_rfl
set_option maxHeartbeats 8000000 in
set_option maxRecDepth 100000 in
theorem spec_l9Cut.calls (k:Nat) (a0:Int) (a1:Int) (r1:Int) (r2:Int) (w:World) (h:spec_l9Cut.f k a0 a1=some (r1,r2)):
  Calls Tryz.prog 51 #[.int .i64 a0,.int .i64 a1] w fun e w'=>e=.returned (.agg #[.int .i64 r1,.int .i64 r2])∧Below w.heap.size w w':=by
 have hu25:=Tryz.underlying25;have HB:=qA (Below.refl w.heap.size w);have H:(spec_l9Cut.l0 k a0 a1 a0 a1)=some (r1,r2):=h;clear h;have H':=qA H;clear H;go_enter Tryz.func51,Tryz.ntmps51
 go_wp2_with (first|((with_reducible refine gate_dst (N:=4) rfl ?_);refine box_event ?hg (N:=4) ?hd (cs:= #[.int .i64 0,.int .i64 0]) (t:=25) ?hr ?_;(case hd=>rfl);(case hg=>rfl);(case hr=>first|(go_simp;done)|(go_simp;rfl));intro gb284 hg w3 hbox hb;have n0_:=qA (below_step qy33 hb);have n1_:=qA (hbox);have n2_:=qA ((by rw [hg];exact (below_size qy33):w.heap.size≤gb284));have n3_:=qA ((by rw [hg];exact (below_size qy33):w.heap.size≤gb284));clear HB;have HB:=n0_;have BK284:=n1_;have GW284:=n2_;have GE284:=n3_;clear n0_ n1_ n2_ n3_;clear hb hbox hg))
 go_loopg [5,6] k (fun kq v5 v6 w'=>∃ (x5_1:Int) (x6_1:Int),v5=.int .i64 x5_1∧v6=.int .i64 x6_1∧Aside0 (spec_l9Cut.l0 kq a0 a1 x5_1 x6_1=some (r1,r2))∧Aside0 (kq≤k)∧Aside0 (w'.heap[gb284]? =some (.cells #[.int .i64 0,.int .i64 0] 25 (0,0)))∧Aside0 (Below w.heap.size w w'))
 case atStart=>exact ⟨(a0),(a1),qy76,qy76,H',⟨Nat.le_refl _⟩,⟨(by (with_reducible repeat (first|refine blk_drewN ?_ _|refine blk_drew ?_|refine blk_alloc ?_ _));exact BK284.out)⟩,⟨qy21⟩⟩
 case round=>
  clear H'
  try clear p2
  obtain ⟨x5_1,x6_1,rfl,rfl,HA,HK1,BK284,HB⟩:=hrel
  cases gk with
  |zero=>exact absurd HA.out (by simp [spec_l9Cut.l0])
  |succ k1=>
   have H:=HA.out;clear HA;simp only [spec_l9Cut.l0] at H;by_cases c4:x6_1 > 0
   ·rw [if_pos c4] at H;have c4b0:decide (0 < x6_1)=true:=decide_eq_true c4;clear c4;by_cases c5:x6_1=0
    ·rw [if_pos c5] at H;exact absurd H (by simp)
    ·rw [if_neg c5] at H;have c5b0:(x6_1==0)=false:=beq_eq_false_iff_ne.mpr c5;have c5b1:(x6_1 != 0)=true:=bne_iff_ne.mpr c5;have H':=qA H;clear H
     try go_wp2
     have n0_:=qA (blk_drew BK284.out);have n1_:=qA (below_drew1 HB.out);clear BK284;clear HB;have BK284:=n0_;have HB:=n1_;clear n0_ n1_;refine start_ (n:=6) (S:=fun w'=>True) (ds:=[]) #[false,false,false,false,false,false] (by kernel_rfl) rfl rfl trivial (fun hHeld=>?_);generalize wr.drew=w6 at BK284 HB hHeld ⊢;refine pK 0 (some 11) rfl rfl ?_;refine pK 1 (some 12) rfl rfl ?_;refine pK 2 (some 13) rfl rfl ?_;refine pK 3 (some 14) rfl rfl ?_;refine pK 4 (some 5) rfl rfl ?_;refine pK 5 (some 6) rfl rfl ?_;refine done_ (by kernel_rfl) ?_
     try go_wp2
     go_roundg k1
     case measure=>have:=HK1.out;omega
     case rel=>exact ⟨(x6_1),(Int.tmod x5_1 x6_1),qy76,qy76,H',⟨qy81⟩,⟨(by (with_reducible repeat (first|refine blk_drewN ?_ _|refine blk_drew ?_|refine blk_alloc ?_ _));exact BK284.out)⟩,⟨qy21⟩⟩
   ·rw [if_neg c4] at H;have c4b0:decide (0 < x6_1)=false:=decide_eq_false c4;clear c4;replace H:=Option.bind_eq_some_iff.mp H;obtain ⟨t285,A70,H⟩:=H;replace H:(if t285=0 then (none) else ((spec_l1Most.f x5_1 1).bind fun t286=>(if t286=0 then (none) else (some (wrap64 (Int.tdiv a0 t285),wrap64 (Int.tdiv a1 t286))))))=some (r1,r2):=H;have A7:=qA A70;clear A70;by_cases c8:t285=0
    ·rw [if_pos c8] at H;exact absurd H (by simp)
    ·rw [if_neg c8] at H;have c8b0:(t285==0)=false:=beq_eq_false_iff_ne.mpr c8;have c8b1:(t285 != 0)=true:=bne_iff_ne.mpr c8;replace H:=Option.bind_eq_some_iff.mp H;obtain ⟨t286,A90,H⟩:=H;replace H:(if t286=0 then (none) else (some (wrap64 (Int.tdiv a0 t285),wrap64 (Int.tdiv a1 t286))))=some (r1,r2):=H;have A9:=qA A90;clear A90;by_cases c10:t286=0
     ·rw [if_pos c10] at H;exact absurd H (by simp)
     ·rw [if_neg c10] at H;have c10b0:(t286==0)=false:=beq_eq_false_iff_ne.mpr c10;have c10b1:(t286 != 0)=true:=bne_iff_ne.mpr c10;simp only [Option.some.injEq,Prod.mk.injEq] at H;obtain ⟨rfl,rfl⟩:=H
      try go_wp2
      have n0_:=qA (blk_drew BK284.out);have n1_:=qA (below_drew1 HB.out);clear BK284;clear HB;have BK284:=n0_;have HB:=n1_;clear n0_ n1_;refine start_ (n:=10) (S:=fun w'=>True) (ds:=[]) #[false,false,false,false,false,false,false,false,false,false] (by kernel_rfl) rfl rfl trivial (fun hHeld=>?_);refine with_tabW spec_l9Cut.tab4 spec_l9Cut.bits4 (fun HT_ HW_=>?_);generalize wr.drew=w11 at BK284 HB hHeld ⊢;refine pU 0 (some 15) rfl rfl ?_;refine pU 1 (some 16) rfl rfl ?_;refine pU 4 (some 19) rfl rfl ?_;refine pU 5 (some 20) rfl rfl ?_;refine one_ (i:=2) (N:=some 17) #[true,true,true,false,true,true,false,false,false,false] rfl rfl (one_of HT_.out (by kernel_rfl)) (by decide) (fun K hK=>?_);refine goes_ Tryz.func107 (by kernel_rfl) rfl #[.int .i64 x5_1,.int .i64 1] (by rfl) rfl rfl qy29 ?_
      with_reducible refine (spec_l1Most.calls x5_1 1 t285 _ A7.out).mono ?_
      rintro e w' ⟨rfl,⟨nd,rfl⟩⟩;refine ⟨_,rfl,?_⟩;refine hK.out _ _ trivial (fun hHeld=>?_);clear hK K;refine norm_ (a':=?_) ?_ ?_;rotate_left
      ·show Act.put _ (some 17) _=_
       simp only [Act.put,List.setIfInBounds_toArray,List.set_cons_zero,List.set_cons_succ,i64_w,i32_w];rfl
      refine pU 3 (some 18) rfl rfl ?_;refine one_ (i:=6) (N:=some 21) #[true,true,true,true,true,true,true,false,false,false] rfl rfl (one_of HT_.out (by kernel_rfl)) (by decide) (fun K hK=>?_);refine goes_ Tryz.func107 (by kernel_rfl) rfl #[.int .i64 x5_1,.int .i64 1] (by rfl) rfl rfl qy29 ?_
      with_reducible refine (spec_l1Most.calls x5_1 1 t286 _ A9.out).mono ?_
      rintro e w' ⟨rfl,⟨nd,rfl⟩⟩;refine ⟨_,rfl,?_⟩;refine hK.out _ _ trivial (fun hHeld=>?_);clear hK K;refine norm_ (a':=?_) ?_ ?_;rotate_left
      ·show Act.put _ (some 21) _=_
       simp only [Act.put,List.setIfInBounds_toArray,List.set_cons_zero,List.set_cons_succ,i64_w,i32_w];rfl
      refine pU 7 (some 22) rfl rfl ?_;refine pU 8 (some 23) rfl rfl ?_;refine one_ (i:=9) (N:=none) #[true,true,true,true,true,true,true,true,true,true] rfl rfl (one_of HT_.out (by kernel_rfl)) (by decide) (fun K hK=>?_);have hs12:w11.cell? ⟨gb284,0,none⟩=some (.int .i64 0):=(blk_cell BK284.out 0).trans rfl;have hfs12:=blk_frozen BK284.out 0;have hs13:w11.cell? ⟨gb284,1,none⟩=some (.int .i64 0):=(blk_cell BK284.out 1).trans rfl;have hfs13:=blk_frozen BK284.out 1;refine skip_ (w1:=?_) (by rfl) rfl ?_ ?_;rotate_left
      ·go_simp;rfl
      refine hK.out _ _ trivial (fun hHeld=>?_);clear hK K;refine done_ (done_of HT_.out (by kernel_rfl)) ?_
      try go_wp2
      refine bodyPost_ret (results_cell_row rfl _ _ gb284 25 #[.int .i64 (wrap64 (Int.tdiv a0 t285)),.int .i64 (wrap64 (Int.tdiv a1 t286))] (0,0) _ rfl (by (with_reducible repeat (first|refine blk_drewN ?_ _|refine blk_drew ?_|refine blk_alloc ?_ _));refine blk_put (cs:= #[.int .i64 (wrap64 (Int.tdiv a0 t285)),.int .i64 0]) ?_ 1 _ rfl;(with_reducible repeat (first|refine blk_drewN ?_ _|refine blk_drew ?_|refine blk_alloc ?_ _));refine blk_put (cs:= #[.int .i64 0,.int .i64 0]) ?_ 0 _ rfl;(with_reducible repeat (first|refine blk_drewN ?_ _|refine blk_drew ?_|refine blk_alloc ?_ _));exact BK284.out) Tryz.underlying25 rfl (by kernel_rfl)) rfl ?_;exact ⟨qy68,qy21⟩

end Go.Proofs.YtaoecbpfocillaaGreat.Xdz
