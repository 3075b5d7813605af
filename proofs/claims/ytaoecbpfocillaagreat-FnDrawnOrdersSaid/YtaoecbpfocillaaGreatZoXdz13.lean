-- Written by this session's own program (xprint.py) over the kit's print.py: functions, contracts and rows of the laws of one seat.
import Derived.Test.YtaoecbpfocillaaGreatZoXdz0
import Derived.Test.YtaoecbpfocillaaGreatZoXdz9
namespace Go.Proofs.YtaoecbpfocillaaGreat.Xdz
open Go.RowKit Go.Proofs.YtaoecbpfocillaaGreatW.PrintWords Go.Proofs.YtaoecbpfocillaaGreatW.PrintLast Go.Proofs.YtaoecbpfocillaaGreatW.PrintMore
attribute [local go_sem] max2_int min2_int max_two min_two max_three min_three max_four min_four -- for this text's walks alone
set_option linter.unusedVariables false
set_option linter.unusedSimpArgs false

/-! ### spec_l5Insert: function 115 -/
mutual
def spec_l5Insert.l0:Nat→List (List Int)→Int→List (List Int)→Int→Option ((List (List Int)) × Int)
 |0,_,_,_,_=>none
 |k+1,x0,x1,x6,x7=>if x7 < (x0.length:Int) then (if 0≤x7 then ((spec_l1Own.f (rd_L2 x0 x7)).bind fun t315=>(if x6.length < 5864062014805 then (spec_l5Insert.l0 k x0 x1 (x6++[t315]) (wrap64 (x7+1))) else (none))) else (none)) else (spec_l5Insert.l1 k x1 x6 0)
def spec_l5Insert.l1:Nat→Int→List (List Int)→Int→Option ((List (List Int)) × Int)
 |0,_,_,_=>none
 |k+1,x1,x6,x8=>if x8=(x6.length:Int) then (if x6.length < 5864062014805 then (some ((x6++[(([x1]:List Int))]),x8)) else (none)) else (spec_l5Insert.l2 k x1 x6 x8 0)
def spec_l5Insert.l2:Nat→Int→List (List Int)→Int→Int→Option ((List (List Int)) × Int)
 |0,_,_,_,_=>none
 |k+1,x1,x6,x8,x9=>if 0≤x8 then (if x8 < (x6.length:Int) then (if x9 < ((rd_L2 x6 x8).length:Int) then (if 0≤x9 then (if (rd (rd_L2 x6 x8) x9) < x1 then (spec_l5Insert.l2 k x1 x6 x8 (wrap64 (x9+1))) else (if x9=((rd_L2 x6 x8).length:Int) then (if (rd_L2 x6 x8).length < 17592186044416 then (some ((x6.set (x8:Int).toNat ((rd_L2 x6 x8)++[x1])),x8)) else (none)) else (spec_l5Insert.l1 k (rd (rd_L2 x6 x8) x9) (x6.set (x8:Int).toNat ((rd_L2 x6 x8).set (x9:Int).toNat x1)) (wrap64 (x8+1))))) else (none)) else (if x9=((rd_L2 x6 x8).length:Int) then (if (rd_L2 x6 x8).length < 17592186044416 then (some ((x6.set (x8:Int).toNat ((rd_L2 x6 x8)++[x1])),x8)) else (none)) else (if 0≤x9 then (none) else (none)))) else (none)) else (none)
end
def spec_l5Insert.f (k:Nat) (l0:List (List Int)) (a1:Int):Option ((List (List Int)) × Int):=spec_l5Insert.l0 k l0 a1 (([]:List (List Int))) 0
theorem spec_l5Insert.mono_l:∀ k,(∀ y0 y1 y2 y3,LeO (spec_l5Insert.l0 k y0 y1 y2 y3) (spec_l5Insert.l0 (k+1) y0 y1 y2 y3))∧(∀ y0 y1 y2,LeO (spec_l5Insert.l1 k y0 y1 y2) (spec_l5Insert.l1 (k+1) y0 y1 y2))∧(∀ y0 y1 y2 y3,LeO (spec_l5Insert.l2 k y0 y1 y2 y3) (spec_l5Insert.l2 (k+1) y0 y1 y2 y3))
 |0=>⟨fun _ _ _ _ r h=>by simp [spec_l5Insert.l0] at h,fun _ _ _ r h=>by simp [spec_l5Insert.l1] at h,fun _ _ _ _ r h=>by simp [spec_l5Insert.l2] at h⟩
 |k+1=>by
  obtain ⟨ih0,ih1,ih2⟩:=spec_l5Insert.mono_l k;refine ⟨?_,?_,?_⟩
  ·intro y0 y1 y2 y3;unfold spec_l5Insert.l0
   repeat' first
   |(with_reducible exact ih0 _ _ _ _)
   |(with_reducible exact ih1 _ _ _)
   |(with_reducible exact ih2 _ _ _ _)
   |(with_reducible exact LeO.refl _)
   |(with_reducible exact LeO.none _)
   |(with_reducible refine LeO.ite ?_ ?_)
   |(with_reducible refine LeO.bind ?_ (fun _=>?_))
   |exact ih0 _ _ _ _
   |exact ih1 _ _ _
   |exact ih2 _ _ _ _
   |exact LeO.none _
   |refine LeO.ite ?_ ?_
   |refine LeO.bind ?_ (fun _=>?_)
  ·intro y0 y1 y2;unfold spec_l5Insert.l1
   repeat' first
   |(with_reducible exact ih0 _ _ _ _)
   |(with_reducible exact ih1 _ _ _)
   |(with_reducible exact ih2 _ _ _ _)
   |(with_reducible exact LeO.refl _)
   |(with_reducible exact LeO.none _)
   |(with_reducible refine LeO.ite ?_ ?_)
   |(with_reducible refine LeO.bind ?_ (fun _=>?_))
   |exact ih0 _ _ _ _
   |exact ih1 _ _ _
   |exact ih2 _ _ _ _
   |exact LeO.none _
   |refine LeO.ite ?_ ?_
   |refine LeO.bind ?_ (fun _=>?_)
  ·intro y0 y1 y2 y3;unfold spec_l5Insert.l2
   repeat' first
   |(with_reducible exact ih0 _ _ _ _)
   |(with_reducible exact ih1 _ _ _)
   |(with_reducible exact ih2 _ _ _ _)
   |(with_reducible exact LeO.refl _)
   |(with_reducible exact LeO.none _)
   |(with_reducible refine LeO.ite ?_ ?_)
   |(with_reducible refine LeO.bind ?_ (fun _=>?_))
   |exact ih0 _ _ _ _
   |exact ih1 _ _ _
   |exact ih2 _ _ _ _
   |exact LeO.none _
   |refine LeO.ite ?_ ?_
   |refine LeO.bind ?_ (fun _=>?_)
theorem spec_l5Insert.mono:∀ a0 a1 k,LeO (spec_l5Insert.f k a0 a1) (spec_l5Insert.f (k+1) a0 a1):=by
 intro a0 a1 k;obtain ⟨ih0,ih1,ih2⟩:=spec_l5Insert.mono_l k;unfold spec_l5Insert.f
 repeat' first
   |(with_reducible exact ih0 _ _ _ _)
   |(with_reducible exact ih1 _ _ _)
   |(with_reducible exact ih2 _ _ _ _)
   |(with_reducible exact LeO.refl _)
   |(with_reducible exact LeO.none _)
   |(with_reducible refine LeO.ite ?_ ?_)
   |(with_reducible refine LeO.bind ?_ (fun _=>?_))
   |exact ih0 _ _ _ _
   |exact ih1 _ _ _
   |exact ih2 _ _ _ _
   |exact LeO.none _
   |refine LeO.ite ?_ ?_
   |refine LeO.bind ?_ (fun _=>?_)
set_option maxHeartbeats 8000000 in
set_option maxRecDepth 100000 in
theorem spec_l5Insert.calls (k:Nat) (A0:Option Addr) (c0:Nat) (l0:List (List Int)) (a1:Int) (r1:List (List Int)) (r2:Int) (w:World) (hr0:Kd.C (Kd.slice 3 (Kd.int .i64)) w A0 l0.length l0) (hc0:l0.length≤c0) (h:spec_l5Insert.f k l0 a1=some (r1,r2)):
  Calls Tryz.prog 115 #[.slice A0 l0.length c0,.int .i64 a1] w fun e w'=>∃ v0_:Value,e=.returned (.tuple #[v0_,.int .i64 r2])∧Kd.S (Kd.slice 3 (Kd.int .i64)) 36 w' w.heap.size (fun _=>True) v0_ r1∧Below w.heap.size w w':=by
 have HR0:=qA hr0;have HC0:=qA hc0;clear hr0 hc0;have HB:=qA (Below.refl w.heap.size w);have H:(spec_l5Insert.l0 k l0 a1 (([]:List (List Int))) 0)=some (r1,r2):=h;clear h
 obtain ⟨y311,hy311⟩:∃ y_:List (List Int),y_=(([]:List (List Int))):=⟨_,rfl⟩
 replace H:(spec_l5Insert.l0 k l0 a1 y311 0)=some (r1,r2):=by first|(rw [hy311];with_reducible exact H)|(have H2_:=(Option.bind_some _ _).symm.trans H;rw [hy311];with_reducible exact H2_)|(have H2_:=(Option.bind_some _ _).symm.trans H;with_reducible exact H2_)|with_reducible exact H|(rw [hy311];exact H)|exact H
 have Ny311:=qA hy311;clear hy311;have H':=qA H;clear H;go_enter Tryz.func115,Tryz.ntmps115
 go_wp2_with (first|((with_reducible refine gate_dst (N:=11) rfl ?_);refine Kd.S_lit (Kd.slice 3 (Kd.int .i64)) _ 36 ?hg (N:=11) ?hd (xs:=([]:List (List Int))) (inner:=[]) (ok:=fun _=>True) (okp:=fun _=>True) ?hr ?hp (fun _ hk=>hk) trivial (Below.refl _ _) (Nat.le_refl _) (by simp) ?_;(case hd=>rfl);(case hg=>rfl);(case hr=>first|(go_simp;done)|(go_simp;rfl));(case hp=>exact (Reps.none _ _));intro v312 w3 ho4 hb hg_ hnew_;clear hg_ hnew_;(first|rw [← Ny311.out] at ho4|(simp only [Int.reduceToNat] at ho4;rw [← Ny311.out] at ho4));have n0_:=qA (Kd.S_lower ho4 (below_size qy33));have n1_:=qA (below_step qy33 hb);clear HB;have HO313:=n0_;have HB:=n1_;clear n0_ n1_;clear hb ho4))
 go_loopg [6,7] k (fun kq v6 v7 w'=>∃ (x6_1:List (List Int)) (x7_1:Int),v7=.int .i64 x7_1∧Aside0 (spec_l5Insert.l0 kq l0 a1 x6_1 x7_1=some (r1,r2))∧Aside0 (kq≤k)∧Aside0 (Kd.S (Kd.slice 3 (Kd.int .i64)) 36 w' w.heap.size (fun _=>True) v6 x6_1)∧Aside0 (Below w.heap.size w w'))
 case atStart=>exact ⟨(y311),(0),qy76,H',⟨Nat.le_refl _⟩,⟨(by (with_reducible repeat (first|apply Kd.S_alloc|apply Kd.S_drewN|apply Kd.S_drew));exact HO313.out)⟩,⟨qy33⟩⟩
 case round=>
  clear H'
  try clear c1
  try clear p2
  obtain ⟨x6_1,x7_1,rfl,HA,HK1,HO_6,HB⟩:=hrel
  cases gk with
  |zero=>exact absurd HA.out (by simp [spec_l5Insert.l0])
  |succ k1=>
   have H:=HA.out;clear HA;simp only [spec_l5Insert.l0] at H;by_cases c5:x7_1 < (l0.length:Int)
   ·rw [if_pos c5] at H;have c5b0:decide (x7_1 < (l0.length:Int))=true:=decide_eq_true c5;clear c5;by_cases c6:0≤x7_1
    ·rw [if_pos c6] at H;have c6b0:decide (0≤x7_1)=true:=decide_eq_true c6;clear c6;replace H:=Option.bind_eq_some_iff.mp H;obtain ⟨t315,A70,H⟩:=H;replace H:(if x6_1.length < 5864062014805 then (spec_l5Insert.l0 k1 l0 a1 (x6_1++[t315]) (wrap64 (x7_1+1))) else (none))=some (r1,r2):=H;have A7:=qA A70;clear A70;by_cases c8:x6_1.length < 5864062014805
     ·rw [if_pos c8] at H;have LMc8:=qA c8;clear c8
      obtain ⟨y318,hy318⟩:∃ y_:List (List Int),y_=(x6_1++[t315]):=⟨_,rfl⟩
      replace H:(spec_l5Insert.l0 k1 l0 a1 y318 (wrap64 (x7_1+1)))=some (r1,r2):=by first|(rw [hy318];with_reducible exact H)|(have H2_:=(Option.bind_some _ _).symm.trans H;rw [hy318];with_reducible exact H2_)|(have H2_:=(Option.bind_some _ _).symm.trans H;with_reducible exact H2_)|with_reducible exact H|(rw [hy318];exact H)|exact H
      have Ny318:=qA hy318;clear hy318;have H':=qA H;clear H;have p314:0≤(x7_1:Int):=of_decide_eq_true qy73;have q314:x7_1 < (l0.length:Int):=of_decide_eq_true qy73;obtain ⟨ad314,A314_0,c314_0,e314,hx314_0,hl314_0,hi314_0⟩:=at_L2 HR0.out x7_1 p314 q314;cases e314;replace hx314_0:=(HB.out.cell (World.block_lt_of_cell? w _ hx314_0)).trans hx314_0;have HR314_0:=qA hi314_0;have HC314_0:=qA hl314_0;clear hi314_0 hl314_0;replace p314:=eq_true p314;replace q314:=eq_true q314
      go_wp2_with (first|((with_reducible refine gate_callee (f:=140) rfl ?_);refine goesL_ (some 23) rfl rfl Tryz.func140 (by kernel_rfl) rfl #[.slice A314_0 (rd_L2 l0 x7_1).length c314_0] rfl qy29 ?_;(with_reducible refine (spec_l1Own.calls _ _ (rd_L2 l0 x7_1) t315 _ ?side1 ?side2 A7.out).mono ?_);(case side1=>repeat (first|exact (Kd.C_below HR314_0.out HB.out)|(with_reducible refine Kd.C_alloc ?_ _)|(with_reducible refine Kd.C_drewN ?_ _)|(with_reducible refine Kd.C_drew ?_)));(case side2=>exact HC314_0.out);rintro e w9 ⟨v316,rfl,ho0,hb⟩;refine ⟨_,rfl,?_⟩;have n0_:=qA (Kd.S_elder' qy57 (Kd.R_base ho0) hb);have n1_:=qA (Kd.R_lower ho0 (below_size qy33));have n2_:=qA (below_step qy33 hb);clear HO_6;clear HB;have HO_6:=n0_;have HO317:=n1_;have HB:=n2_;clear n0_ n1_ n2_;(try clear hb);(try clear hb2);(try clear hk);(try clear hi);(try clear ho0);obtain ⟨Ao11,co11,eo11⟩:=Kd.R_slice HO317.out;subst eo11)|((with_reducible refine gate_builtin (b:=.append) (xs:= #[.tmp 18,.tmp 24]) rfl ?_);at_builtin;refine Kd.S_append (Kd.slice 3 (Kd.int .i64)) (w0:=w) w.heap.size rfl (.tmp 18) (.tmp 24) 32 36 (.slice none 0 0) 24 rfl Tryz.underlying32 info36 rfl (by decide) (by omega) u6 x6_1 t315 [.slice Ao11 t315.length co11] (fun _=>True) (fun k_=>some k_=(.slice Ao11 t315.length co11:Value).ownBlock) rfl rfl ?aP (fun k_ hk_=>((Kd.R_mono (ok':=fun k_=>((fun _=>True)) k_∧some k_≠(u6:Value).ownBlock) (Kd.R_apart' (HO317.out) (Kd.S_typed HO_6.out) (by decide)) (fun k_ hk=>⟨trivial,hk.2⟩))).1 k_ hk_.symm) ?aF ?aO ?aB ?aS ?aL ?_;(case aP=>exact Kd.M_row (Kd.R_mono (Kd.R_tight rfl (Kd.R_mono (ok':=fun k_=>((fun _=>True)) k_∧some k_≠(u6:Value).ownBlock) (Kd.R_apart' (HO317.out) (Kd.S_typed HO_6.out) (by decide)) (fun k_ hk=>⟨trivial,hk.2⟩))) (fun _ h_=>h_)));(case aB=>exact qy33);(case aF=>exact (fun _ _=>trivial));(case aO=>exact (by (with_reducible repeat (first|apply Kd.S_alloc|apply Kd.S_drewN|apply Kd.S_drew));exact Kd.S_mono HO_6.out (fun k_ hk=>⟨trivial,fun e_=>hk.2 e_⟩)));(case aS=>exact (below_size qy33));(case aL=>have:=LMc8.out;omega);intro v319 w10 ho hb hg hat;rw [← Ny318.out] at ho;have n0_:=qA (hb);have n1_:=qA (ho);clear HB;clear HO_6;clear HO317;have HB:=n0_;have HO320:=n1_;clear n0_ n1_;clear ho hb hg hat))
      go_roundg k1
      case measure=>have:=HK1.out;omega
      case rel=>exact ⟨(y318),(wrap64 (x7_1+1)),qy76,H',⟨qy81⟩,⟨(by (with_reducible repeat (first|apply Kd.S_alloc|apply Kd.S_drewN|apply Kd.S_drew));exact HO320.out)⟩,⟨qy33⟩⟩
     ·rw [if_neg c8] at H;exact absurd H (by simp)
    ·rw [if_neg c6] at H;exact absurd H (by simp)
   ·rw [if_neg c5] at H;have c5b0:decide (x7_1 < (l0.length:Int))=false:=decide_eq_false c5;clear c5;have H':=qA H;clear H
    go_wp2
    go_loopg [1,8] k1 (fun kq v1 v8 w'=>∃ (x1_2:Int) (x6_2:List (List Int)) (x8_2:Int),v1=.int .i64 x1_2∧v8=.int .i64 x8_2∧Aside0 (spec_l5Insert.l1 kq x1_2 x6_2 x8_2=some (r1,r2))∧Aside0 (kq≤k1)∧Aside0 (Kd.S (Kd.slice 3 (Kd.int .i64)) 36 w' w.heap.size (fun _=>True) u6 x6_2)∧Aside0 (Below w.heap.size w w'))
    case atStart=>exact ⟨(a1),(x6_1),(0),qy76,qy76,H',⟨Nat.le_refl _⟩,⟨qy57⟩,⟨qy33⟩⟩
    case round=>
     clear H'
     try clear c1
     try clear p2
     try clear c3
     try clear p3
     try clear q3
     try clear hx3
     try clear c5
     try clear c5b0
     try clear c6
     try clear c6b0
     try clear p6
     try clear c8
     try clear c11
     try clear hx314_0
     try clear p2
     try clear p314
     try clear q314
     obtain ⟨x1_2,x6_2,x8_2,rfl,rfl,HA,HK2,HO_6,HB⟩:=hrel
     cases gk with
     |zero=>exact absurd HA.out (by simp [spec_l5Insert.l1])
     |succ k2=>
      have H:=HA.out;clear HA;simp only [spec_l5Insert.l1] at H;by_cases c12:x8_2=(x6_2.length:Int)
      ·rw [if_pos c12] at H;have c12b0:(x8_2==(x6_2.length:Int))=true:=beq_iff_eq.mpr c12;have c12b1:(x8_2 != (x6_2.length:Int))=false:=bne_eq_false_iff_eq.mpr c12;clear c12
       obtain ⟨y321,hy321⟩:∃ y_:List Int,y_=(([x1_2]:List Int)):=⟨_,rfl⟩
       replace H:(if x6_2.length < 5864062014805 then (some ((x6_2++[y321]),x8_2)) else (none))=some (r1,r2):=by first|(rw [hy321];with_reducible exact H)|(have H2_:=(Option.bind_some _ _).symm.trans H;rw [hy321];with_reducible exact H2_)|(have H2_:=(Option.bind_some _ _).symm.trans H;with_reducible exact H2_)|with_reducible exact H|(rw [hy321];exact H)|exact H
       have Ny321:=qA hy321;clear hy321;by_cases c13:x6_2.length < 5864062014805
       ·rw [if_pos c13] at H;have LMc13:=qA c13;clear c13
        obtain ⟨y324,hy324⟩:∃ y_:List (List Int),y_=(x6_2++[y321]):=⟨_,rfl⟩
        replace H:(some (y324,x8_2))=some (r1,r2):=by first|(rw [hy324];with_reducible exact H)|(have H2_:=(Option.bind_some _ _).symm.trans H;rw [hy324];with_reducible exact H2_)|(have H2_:=(Option.bind_some _ _).symm.trans H;with_reducible exact H2_)|with_reducible exact H|(rw [hy324];exact H)|exact H
        have Ny324:=qA hy324;clear hy324;simp only [Option.some.injEq,Prod.mk.injEq] at H;obtain ⟨rfl,rfl⟩:=H;obtain ⟨Ao14,co14,eo14⟩:=Kd.S_slice HO_6.out;subst eo14
        go_wp2_with (first|((with_reducible refine gate_dst (N:=34) rfl ?_);refine Kd.R_lit (Kd.int .i64) _ 3 ?hg (N:=34) ?hd (xs:=([x1_2]:List Int)) (inner:=[.int .i64 x1_2]) (ok:=fun _=>True) (okp:=fun _=>True) ?hr ?hp (fun _ hk=>hk) trivial (Below.refl _ _) (Nat.le_refl _) (by simp) ?_;(case hd=>rfl);(case hg=>rfl);(case hr=>first|(go_simp;done)|(go_simp;rfl));(case hp=>exact (Reps.one (show Kd.M (Kd.int .i64) _ _ _ x1_2 [.int .i64 x1_2] from rfl) (Reps.none _ _)));intro v322 w15 ho16 hb hg_ hnew_;clear hg_ hnew_;(first|rw [← Ny321.out] at ho16|(simp only [Int.reduceToNat] at ho16;rw [← Ny321.out] at ho16));have n0_:=qA (Kd.S_elder' qy57 (Kd.R_base ho16) hb);have n1_:=qA (Kd.R_lower ho16 (below_size qy33));have n2_:=qA (below_step qy33 hb);clear HO_6;clear HB;have HO_6:=n0_;have HO323:=n1_;have HB:=n2_;clear n0_ n1_ n2_;clear hb ho16;obtain ⟨Ao18,co18,eo18⟩:=Kd.R_slice HO323.out;subst eo18)|((with_reducible refine gate_builtin (b:=.append) (xs:= #[.tmp 32,.tmp 35]) rfl ?_);at_builtin;refine Kd.S_append (Kd.slice 3 (Kd.int .i64)) (w0:=w) w.heap.size rfl (.tmp 32) (.tmp 35) 32 36 (.slice none 0 0) 24 rfl Tryz.underlying32 info36 rfl (by decide) (by omega) (.slice Ao14 x6_2.length co14) x6_2 y321 [.slice Ao18 y321.length co18] (fun _=>True) (fun k_=>some k_=(.slice Ao18 y321.length co18:Value).ownBlock) rfl rfl ?aP (fun k_ hk_=>((Kd.R_mono (ok':=fun k_=>((fun _=>True)) k_∧some k_≠(.slice Ao14 x6_2.length co14:Value).ownBlock) (Kd.R_apart' (HO323.out) (Kd.S_typed HO_6.out) (by decide)) (fun k_ hk=>⟨trivial,hk.2⟩))).1 k_ hk_.symm) ?aF ?aO ?aB ?aS ?aL ?_;(case aP=>exact Kd.M_row (Kd.R_mono (Kd.R_tight rfl (Kd.R_mono (ok':=fun k_=>((fun _=>True)) k_∧some k_≠(.slice Ao14 x6_2.length co14:Value).ownBlock) (Kd.R_apart' (HO323.out) (Kd.S_typed HO_6.out) (by decide)) (fun k_ hk=>⟨trivial,hk.2⟩))) (fun _ h_=>h_)));(case aB=>exact qy33);(case aF=>exact (fun _ _=>trivial));(case aO=>exact (by (with_reducible repeat (first|apply Kd.S_alloc|apply Kd.S_drewN|apply Kd.S_drew));exact Kd.S_mono HO_6.out (fun k_ hk=>⟨trivial,fun e_=>hk.2 e_⟩)));(case aS=>exact (below_size qy33));(case aL=>have:=LMc13.out;omega);intro v325 w17 ho hb hg hat;rw [← Ny324.out] at ho;have n0_:=qA (hb);have n1_:=qA (ho);clear HB;clear HO_6;clear HO323;have HB:=n0_;have HO326:=n1_;clear n0_ n1_;clear ho hb hg hat))
        go_ret2;exact ⟨_,qy68,(by (with_reducible repeat (first|apply Kd.S_alloc|apply Kd.S_drewN|apply Kd.S_drew));exact HO326.out),qy33⟩
       ·rw [if_neg c13] at H;exact absurd H (by simp)
      ·rw [if_neg c12] at H;have c12b0:(x8_2==(x6_2.length:Int))=false:=beq_eq_false_iff_ne.mpr c12;have c12b1:(x8_2 != (x6_2.length:Int))=true:=bne_iff_ne.mpr c12;have H':=qA H;clear H;obtain ⟨Ao19,co19,eo19⟩:=Kd.S_slice HO_6.out;subst eo19
       go_wp2
       go_loopg [9] k2 (fun kq v9 w'=>∃ (x9_3:Int),v9=.int .i64 x9_3∧Aside0 (spec_l5Insert.l2 kq x1_2 x6_2 x8_2 x9_3=some (r1,r2))∧Aside0 (kq≤k2)∧Aside0 (Kd.S (Kd.slice 3 (Kd.int .i64)) 36 w' w.heap.size (fun _=>True) (.slice Ao19 x6_2.length co19) x6_2)∧Aside0 (Below w.heap.size w w'))
       case atStart=>exact ⟨(0),qy76,H',⟨Nat.le_refl _⟩,⟨qy57⟩,⟨qy33⟩⟩
       case round=>
        clear H'
        try clear c1
        try clear p2
        try clear c3
        try clear p3
        try clear q3
        try clear hx3
        try clear c5
        try clear c5b0
        try clear c6
        try clear c6b0
        try clear p6
        try clear c8
        try clear c11
        try clear c12
        try clear c12b0
        try clear c12b1
        try clear c13
        try clear c14
        try clear hx314_0
        try clear p2
        try clear p3
        try clear p314
        try clear p6
        try clear q3
        try clear q314
        obtain ⟨x9_3,rfl,HA,HK3,HO_6,HB⟩:=hrel
        cases gk with
        |zero=>exact absurd HA.out (by simp [spec_l5Insert.l2])
        |succ k3=>
         have H:=HA.out;clear HA;simp only [spec_l5Insert.l2] at H;by_cases c20:0≤x8_2
         ·rw [if_pos c20] at H;have c20b0:decide (0≤x8_2)=true:=decide_eq_true c20;clear c20;by_cases c21:x8_2 < (x6_2.length:Int)
          ·rw [if_pos c21] at H;have c21b0:decide (x8_2 < (x6_2.length:Int))=true:=decide_eq_true c21;clear c21;by_cases c22:x9_3 < ((rd_L2 x6_2 x8_2).length:Int)
           ·rw [if_pos c22] at H;have c22b0:decide (x9_3 < ((rd_L2 x6_2 x8_2).length:Int))=true:=decide_eq_true c22;clear c22;by_cases c23:0≤x9_3
            ·rw [if_pos c23] at H;have c23b0:decide (0≤x9_3)=true:=decide_eq_true c23;clear c23;by_cases c24:(rd (rd_L2 x6_2 x8_2) x9_3) < x1_2
             ·rw [if_pos c24] at H;have c24b0:decide ((rd (rd_L2 x6_2 x8_2) x9_3) < x1_2)=true:=decide_eq_true c24;clear c24;have H':=qA H;clear H;have p327:0≤(x8_2:Int):=of_decide_eq_true qy73;have q327:x8_2 < (x6_2.length:Int):=of_decide_eq_true qy73;obtain ⟨ad327,A327_0,c327_0,e327,hx327_0,hl327_0,hi327_0⟩:=at_L2 (Kd.S_reads' HO_6.out).2.2 x8_2 p327 q327;cases e327;obtain ⟨ce327,hce327,hMe327,hcc327⟩:=Kd.S_get HO_6.out [] x8_2 p327 qy26;obtain ⟨ve327_0,rfl,ge327_0⟩:=hMe327;have hv327_0:=hcc327 0 _ rfl;rw [Nat.add_zero,show ((Kd.slice 3 (Kd.int .i64))).sz=1 from rfl,Nat.mul_one] at hv327_0;replace hv327_0:=Option.some.inj (hv327_0.symm.trans hx327_0);rw [hv327_0] at ge327_0;have HL327_0:=qA (show Kd.R (Kd.int .i64) 3 _ _ _ _ (rd_L2 x6_2 x8_2) from ge327_0);clear hv327_0 ge327_0;have HX327_0:=qA hx327_0;clear hcc327 hce327;have HR327_0:=qA hi327_0;have HC327_0:=qA hl327_0;clear hi327_0 hl327_0;replace p327:=eq_true p327;replace q327:=eq_true q327;have p328:0≤(x8_2:Int):=of_decide_eq_true qy73;have q328:x8_2 < (x6_2.length:Int):=of_decide_eq_true qy73;obtain ⟨ad328,A328_0,c328_0,e328,hx328_0,hl328_0,hi328_0⟩:=at_L2 (Kd.S_reads' HO_6.out).2.2 x8_2 p328 q328
              obtain rfl:ad327=ad328:=(by injection e328)
              obtain ⟨ce328,hce328,hMe328,hcc328⟩:=Kd.S_get HO_6.out [] x8_2 p328 qy25;obtain ⟨ve328_0,rfl,ge328_0⟩:=hMe328;have hv328_0:=hcc328 0 _ rfl;rw [Nat.add_zero,show ((Kd.slice 3 (Kd.int .i64))).sz=1 from rfl,Nat.mul_one] at hv328_0;replace hv328_0:=Option.some.inj (hv328_0.symm.trans hx328_0);rw [hv328_0] at ge328_0;have HL328_0:=qA (show Kd.R (Kd.int .i64) 3 _ _ _ _ (rd_L2 x6_2 x8_2) from ge328_0);clear hv328_0 ge328_0;have HX328_0:=qA hx328_0;clear hcc328 hce328;have HR328_0:=qA hi328_0;have HC328_0:=qA hl328_0;clear hi328_0 hl328_0;replace p328:=eq_true p328;replace q328:=eq_true q328;have ea_:=Option.some.inj (hx327_0.symm.trans hx328_0);injection ea_ with ea_ en_ ec_
              subst ea_;subst ec_;clear en_;have p329:0≤(x9_3:Int):=of_decide_eq_true qy73;have q329:x9_3 < ((rd_L2 x6_2 x8_2).length:Int):=of_decide_eq_true qy73;obtain ⟨ad329,e329,hx329_0⟩:=Kd.at_int qy6 x9_3 p329 q329;cases e329;replace p329:=eq_true p329;replace q329:=eq_true q329
              go_wp2
              go_roundg k3
              case measure=>have:=HK1.out;have:=HK2.out;have:=HK3.out;omega
              case rel=>exact ⟨(wrap64 (x9_3+1)),qy76,H',⟨qy72⟩,⟨qy57⟩,⟨qy33⟩⟩
             ·rw [if_neg c24] at H;have c24b0:decide ((rd (rd_L2 x6_2 x8_2) x9_3) < x1_2)=false:=decide_eq_false c24;clear c24;by_cases c25:x9_3=((rd_L2 x6_2 x8_2).length:Int)
              ·rw [if_pos c25] at H;have c25b0:(x9_3==((rd_L2 x6_2 x8_2).length:Int))=true:=beq_iff_eq.mpr c25;have c25b1:(x9_3 != ((rd_L2 x6_2 x8_2).length:Int))=false:=bne_eq_false_iff_eq.mpr c25;clear c25;by_cases c26:(rd_L2 x6_2 x8_2).length < 17592186044416
               ·rw [if_pos c26] at H;have LMc26:=qA c26;clear c26
                obtain ⟨y332,hy332⟩:∃ y_:List Int,y_=((rd_L2 x6_2 x8_2)++[x1_2]):=⟨_,rfl⟩
                replace H:(some ((x6_2.set (x8_2:Int).toNat y332),x8_2))=some (r1,r2):=by first|(rw [hy332];with_reducible exact H)|(have H2_:=(Option.bind_some _ _).symm.trans H;rw [hy332];with_reducible exact H2_)|(have H2_:=(Option.bind_some _ _).symm.trans H;with_reducible exact H2_)|with_reducible exact H|(rw [hy332];exact H)|exact H
                have Ny332:=qA hy332;clear hy332
                obtain ⟨y335,hy335⟩:∃ y_:List (List Int),y_=(x6_2.set (x8_2:Int).toNat y332):=⟨_,rfl⟩
                replace H:(some (y335,x8_2))=some (r1,r2):=by first|(rw [hy335];with_reducible exact H)|(have H2_:=(Option.bind_some _ _).symm.trans H;rw [hy335];with_reducible exact H2_)|(have H2_:=(Option.bind_some _ _).symm.trans H;with_reducible exact H2_)|with_reducible exact H|(rw [hy335];exact H)|exact H
                have Ny335:=qA hy335;clear hy335;simp only [Option.some.injEq,Prod.mk.injEq] at H;obtain ⟨rfl,rfl⟩:=H;have p327:0≤(x8_2:Int):=of_decide_eq_true qy73;have q327:x8_2 < (x6_2.length:Int):=of_decide_eq_true qy73;obtain ⟨ad327,A327_0,c327_0,e327,hx327_0,hl327_0,hi327_0⟩:=at_L2 (Kd.S_reads' HO_6.out).2.2 x8_2 p327 q327;cases e327;obtain ⟨ce327,hce327,hMe327,hcc327⟩:=Kd.S_get HO_6.out [] x8_2 p327 qy26;obtain ⟨ve327_0,rfl,ge327_0⟩:=hMe327;have hv327_0:=hcc327 0 _ rfl;rw [Nat.add_zero,show ((Kd.slice 3 (Kd.int .i64))).sz=1 from rfl,Nat.mul_one] at hv327_0;replace hv327_0:=Option.some.inj (hv327_0.symm.trans hx327_0);rw [hv327_0] at ge327_0;have HL327_0:=qA (show Kd.R (Kd.int .i64) 3 _ _ _ _ (rd_L2 x6_2 x8_2) from ge327_0);clear hv327_0 ge327_0;have HX327_0:=qA hx327_0;clear hcc327 hce327;have HR327_0:=qA hi327_0;have HC327_0:=qA hl327_0;clear hi327_0 hl327_0;replace p327:=eq_true p327;replace q327:=eq_true q327;have p328:0≤(x8_2:Int):=of_decide_eq_true qy73;have q328:x8_2 < (x6_2.length:Int):=of_decide_eq_true qy73;obtain ⟨ad328,A328_0,c328_0,e328,hx328_0,hl328_0,hi328_0⟩:=at_L2 (Kd.S_reads' HO_6.out).2.2 x8_2 p328 q328
                obtain rfl:ad327=ad328:=(by injection e328)
                obtain ⟨ce328,hce328,hMe328,hcc328⟩:=Kd.S_get HO_6.out [] x8_2 p328 qy25;obtain ⟨ve328_0,rfl,ge328_0⟩:=hMe328;have hv328_0:=hcc328 0 _ rfl;rw [Nat.add_zero,show ((Kd.slice 3 (Kd.int .i64))).sz=1 from rfl,Nat.mul_one] at hv328_0;replace hv328_0:=Option.some.inj (hv328_0.symm.trans hx328_0);rw [hv328_0] at ge328_0;have HL328_0:=qA (show Kd.R (Kd.int .i64) 3 _ _ _ _ (rd_L2 x6_2 x8_2) from ge328_0);clear hv328_0 ge328_0;have HX328_0:=qA hx328_0;clear hcc328 hce328;have HR328_0:=qA hi328_0;have HC328_0:=qA hl328_0;clear hi328_0 hl328_0;replace p328:=eq_true p328;replace q328:=eq_true q328;have ea_:=Option.some.inj (hx327_0.symm.trans hx328_0);injection ea_ with ea_ en_ ec_
                subst ea_;subst ec_;clear en_;have p329:0≤(x9_3:Int):=of_decide_eq_true qy73;have q329:x9_3 < ((rd_L2 x6_2 x8_2).length:Int):=of_decide_eq_true qy73;obtain ⟨ad329,e329,hx329_0⟩:=Kd.at_int qy6 x9_3 p329 q329;cases e329;replace p329:=eq_true p329;replace q329:=eq_true q329;have p330:0≤(x8_2:Int):=of_decide_eq_true qy73;have q330:x8_2 < (x6_2.length:Int):=of_decide_eq_true qy73;obtain ⟨ad330,A330_0,c330_0,e330,hx330_0,hl330_0,hi330_0⟩:=at_L2 (Kd.S_reads' HO_6.out).2.2 x8_2 p330 q330
                obtain rfl:ad327=ad330:=(by injection e330)
                obtain ⟨ce330,hce330,hMe330,hcc330⟩:=Kd.S_get HO_6.out [] x8_2 p330 (by first|exact q330|exact of_decide_eq_true qy73|(have e_:=(Kd.S_reads' HO_6.out).1;omega));obtain ⟨ve330_0,rfl,ge330_0⟩:=hMe330;have hv330_0:=hcc330 0 _ rfl;rw [Nat.add_zero,show ((Kd.slice 3 (Kd.int .i64))).sz=1 from rfl,Nat.mul_one] at hv330_0;replace hv330_0:=Option.some.inj (hv330_0.symm.trans hx330_0);rw [hv330_0] at ge330_0;have HL330_0:=qA (show Kd.R (Kd.int .i64) 3 _ _ _ _ (rd_L2 x6_2 x8_2) from ge330_0);clear hv330_0 ge330_0;have HX330_0:=qA hx330_0;clear hcc330 hce330;have HR330_0:=qA hi330_0;have HC330_0:=qA hl330_0;clear hi330_0 hl330_0;replace p330:=eq_true p330;replace q330:=eq_true q330;have ea_:=Option.some.inj (hx327_0.symm.trans hx330_0);injection ea_ with ea_ en_ ec_
                subst ea_;subst ec_;clear en_;have p331:0≤(x8_2:Int):=of_decide_eq_true qy73;have q331:x8_2 < (x6_2.length:Int):=of_decide_eq_true qy73;obtain ⟨ad331,A331_0,c331_0,e331,hx331_0,hl331_0,hi331_0⟩:=at_L2 (Kd.S_reads' HO_6.out).2.2 x8_2 p331 q331
                obtain rfl:ad327=ad331:=(by injection e331)
                obtain ⟨ce331,hce331,hMe331,hcc331⟩:=Kd.S_get HO_6.out [] x8_2 p331 (by first|exact q331|exact of_decide_eq_true qy73|(have e_:=(Kd.S_reads' HO_6.out).1;omega));obtain ⟨ve331_0,rfl,ge331_0⟩:=hMe331;have hv331_0:=hcc331 0 _ rfl;rw [Nat.add_zero,show ((Kd.slice 3 (Kd.int .i64))).sz=1 from rfl,Nat.mul_one] at hv331_0;replace hv331_0:=Option.some.inj (hv331_0.symm.trans hx331_0);rw [hv331_0] at ge331_0;have HL331_0:=qA (show Kd.R (Kd.int .i64) 3 _ _ _ _ (rd_L2 x6_2 x8_2) from ge331_0);clear hv331_0 ge331_0;have HX331_0:=qA hx331_0;clear hcc331 hce331;have HR331_0:=qA hi331_0;have HC331_0:=qA hl331_0;clear hi331_0 hl331_0;replace p331:=eq_true p331;replace q331:=eq_true q331;have ea_:=Option.some.inj (hx327_0.symm.trans hx331_0);injection ea_ with ea_ en_ ec_
                subst ea_;subst ec_;clear en_;obtain ⟨go28,co28,eo28,gb28,gl28,cl28,HG28⟩:=Kd.S_form HO_6.out (by have h_:(x8_2:Int) < ((x6_2.length:Int):Int):=of_decide_eq_true qy73;have h2_:0≤(x8_2:Int):=(of_decide_eq_true qy73);omega)
                (first|cases eo28|(injection eo28 with ea_ en_ ec_;(first|subst ea_|(injection ea_ with ea_;subst ea_));subst ec_;clear en_))
                have GB28:=qA gb28;have GG28:=qA HG28;clear gb28 gl28 HG28
                (first|simp only [add_plain] at hx327_0|skip)
                (first|simp only [add_plain] at hx328_0|skip)
                (first|simp only [add_plain] at hx330_0|skip)
                (first|simp only [add_plain] at hx331_0|skip)
                obtain ⟨oki28,ce28,hcl28,hM28,hcc28,_,_,hH28⟩:=Kd.S_elem HO_6.out [] (x8_2:Int) (of_decide_eq_true qy73) (by have h_:(x8_2:Int) < ((x6_2.length:Int):Int):=of_decide_eq_true qy73;first|exact h_|(have e_:=(Kd.S_reads' HO_6.out).1;omega)|simpa using h_);obtain ⟨ve28_0,rfl,ge28_0⟩:=hM28;have hv28:=hcc28 0 _ rfl;have hX28:=HX331_0.out
                (try simp only [add_plain] at hX28)
                (try simp only [Nat.add_zero] at hv28)
                (try rw [show ((Kd.slice 3 (Kd.int .i64))).sz=1 from rfl,Nat.mul_one] at hv28)
                replace hv28:=Option.some.inj (hv28.symm.trans hX28);subst hv28;clear hX28 hcc28 hcl28;have UU28:=qA (show Kd.R (Kd.int .i64) 3 _ w.heap.size oki28 (.slice (some ad329) (rd_L2 x6_2 x8_2).length c327_0) (rd_L2 x6_2 x8_2) from ge28_0);have HH28:=qA hH28;have HN28:=qA (Kd.S_reads' HO_6.out).1;clear hH28 ge28_0
                go_wp2_with (first|((with_reducible refine gate_builtin (b:=.append) (xs:= #[.tmp 70,.tmp 72]) rfl ?_);at_builtin;refine Kd.R_append (Kd.int .i64) (w0:=w) w.heap.size rfl (.tmp 70) (.tmp 72) 36 3 (.int .i64 0) 8 rfl Tryz.underlying36 info3 rfl (by decide) (by omega) (.slice (some ad329) (rd_L2 x6_2 x8_2).length c327_0) (rd_L2 x6_2 x8_2) x1_2 [.int .i64 x1_2] (fun k_=>oki28 k_∨((fun _=>True)) k_∧wr.heap.size≤k_) (fun _=>False) rfl rfl ?aP (fun _ hk=>hk.elim) ?aF ?aO ?aB ?aS ?aL ?_;(case aP=>exact rfl);(case aB=>exact qy33);(case aF=>exact (fun k_ hk=>.inr ⟨trivial,hk⟩));(case aO=>exact (by (with_reducible repeat (first|apply Kd.R_alloc|apply Kd.R_drewN|apply Kd.R_drew));exact Kd.R_mono UU28.out (fun _ hk=>.inl hk)));(case aS=>exact (below_size qy33));(case aL=>have:=LMc26.out;omega);intro v333 w29 ho hb hg hat;rw [← Ny332.out] at ho;have n0_:=qA (hb);have n1_:=qA (Kd.H_grown (Kd.H_widen (by repeat (first|exact HH28.out|refine Kd.H_alloc ?_ _|refine Kd.H_drewN ?_ _|refine Kd.H_drew ?_))) hg (fun k_ e_=>.inl (UU28.out.1 k_ e_)));have n2_:=qA (ho);clear HB;clear HH28;clear HO_6;clear UU28;clear HL327_0;clear HL328_0;clear HL330_0;clear HL331_0;have HB:=n0_;have HH28:=n1_;have HO334:=n2_;clear n0_ n1_ n2_;clear ho hb hg hat;have p27:0≤(x8_2:Int):=of_decide_eq_true qy73;have q27:(x8_2:Int) < ((x6_2.length:Int):Int):=of_decide_eq_true qy73;replace p27:=eq_true p27;replace q27:=eq_true q27;obtain ⟨Ao32,co32,eo32⟩:=Kd.R_slice HO334.out;subst eo32;obtain ⟨_,_,hraw30,_,_,hcc30,_⟩:=Kd.H_raw HH28.out (of_decide_eq_true qy73) (by have h_:(x8_2:Int) < ((x6_2.length:Int):Int):=of_decide_eq_true qy73;first|exact h_|(have e_:=(HN28.out);omega)|simpa using h_);obtain ⟨_,hfr30⟩:=Kd.H_at HH28.out (of_decide_eq_true qy73) (by have h_:(x8_2:Int) < ((x6_2.length:Int):Int):=of_decide_eq_true qy73;first|exact h_|(have e_:=(HN28.out);omega)|simpa using h_);have hx30_0:=hcc30 0 _ rfl;have hf30_0:=hfr30 0;(try simp only [Nat.add_zero] at hx30_0 hf30_0);(try rw [show ((Kd.slice 3 (Kd.int .i64))).sz=1 from rfl,Nat.mul_one] at hx30_0);(try rw [show ((Kd.slice 3 (Kd.int .i64))).sz=1 from rfl,Nat.mul_one] at hf30_0);have HP30:=Kd.S_seg0 HH28.out (of_decide_eq_true qy73) (by have h_:(x8_2:Int) < ((x6_2.length:Int):Int):=of_decide_eq_true qy73;first|exact h_|(have e_:=(HN28.out);omega)|simpa using h_) (seg:=[.slice Ao32 y332.length co32]) (j:=0) (show 1≤1 from by decide) (x':=y332) (Kd.M_row HO334.out) (fun _ hk=>hk);(try simp only [show ((Kd.slice 3 (Kd.int .i64))).sz=1 from rfl,Nat.mul_one,Nat.add_zero] at HP30);clear hcc30 hfr30)|((with_reducible refine gate_store (t:=36) (p:=74) rfl ?_);refine store_event (t:=36) (p:=74) (v:=?vo_w31) (w1:=(w29.setCell ⟨go28,(x8_2:Int).toNat,none⟩ (.slice Ao32 y332.length co32))) ?hg ?ho ?hn ?hr ?_;(case ho=>rfl);(case hg=>rfl);(case hn=>rfl);(case hr=>first|(go_simp;done)|(go_simp;rfl));intro w31 hw;have hg:w29.grownBy w31 (some go28):=(by rw [hw];exact HP30.2);have hp_:Kd.S (Kd.slice 3 (Kd.int .i64)) 36 w31 w.heap.size (fun _=>True) (.slice (some ⟨go28,0,none⟩) x6_2.length co19) y335:=(by rw [hw,Ny335.out];exact HP30.1);clear HP30;have n0_:=qA ((by rw [hw];exact below_set HB.out GB28.out:Below w.heap.size w w31));have n1_:=qA (hp_);clear HB;clear HO334;clear HH28;have HB:=n0_;have HO_6:=n1_;clear n0_ n1_;clear hg hw hp_ hraw30))
                go_ret2;exact ⟨_,qy68,qy57,qy33⟩
               ·rw [if_neg c26] at H;exact absurd H (by simp)
              ·rw [if_neg c25] at H;have c25b0:(x9_3==((rd_L2 x6_2 x8_2).length:Int))=false:=beq_eq_false_iff_ne.mpr c25;have c25b1:(x9_3 != ((rd_L2 x6_2 x8_2).length:Int))=true:=bne_iff_ne.mpr c25
               obtain ⟨y339,hy339⟩:∃ y_:List Int,y_=((rd_L2 x6_2 x8_2).set (x9_3:Int).toNat x1_2):=⟨_,rfl⟩
               replace H:(spec_l5Insert.l1 k3 (rd (rd_L2 x6_2 x8_2) x9_3) (x6_2.set (x8_2:Int).toNat y339) (wrap64 (x8_2+1)))=some (r1,r2):=by first|(rw [hy339];with_reducible exact H)|(have H2_:=(Option.bind_some _ _).symm.trans H;rw [hy339];with_reducible exact H2_)|(have H2_:=(Option.bind_some _ _).symm.trans H;with_reducible exact H2_)|with_reducible exact H|(rw [hy339];exact H)|exact H
               have Ny339:=qA hy339;clear hy339
               obtain ⟨y341,hy341⟩:∃ y_:List (List Int),y_=(x6_2.set (x8_2:Int).toNat y339):=⟨_,rfl⟩
               replace H:(spec_l5Insert.l1 k3 (rd (rd_L2 x6_2 x8_2) x9_3) y341 (wrap64 (x8_2+1)))=some (r1,r2):=by first|(rw [hy341];with_reducible exact H)|(have H2_:=(Option.bind_some _ _).symm.trans H;rw [hy341];with_reducible exact H2_)|(have H2_:=(Option.bind_some _ _).symm.trans H;with_reducible exact H2_)|with_reducible exact H|(rw [hy341];exact H)|exact H
               have Ny341:=qA hy341;clear hy341;have H':=qA H;clear H;have p327:0≤(x8_2:Int):=of_decide_eq_true qy73;have q327:x8_2 < (x6_2.length:Int):=of_decide_eq_true qy73;obtain ⟨ad327,A327_0,c327_0,e327,hx327_0,hl327_0,hi327_0⟩:=at_L2 (Kd.S_reads' HO_6.out).2.2 x8_2 p327 q327;cases e327;obtain ⟨ce327,hce327,hMe327,hcc327⟩:=Kd.S_get HO_6.out [] x8_2 p327 qy26;obtain ⟨ve327_0,rfl,ge327_0⟩:=hMe327;have hv327_0:=hcc327 0 _ rfl;rw [Nat.add_zero,show ((Kd.slice 3 (Kd.int .i64))).sz=1 from rfl,Nat.mul_one] at hv327_0;replace hv327_0:=Option.some.inj (hv327_0.symm.trans hx327_0);rw [hv327_0] at ge327_0;have HL327_0:=qA (show Kd.R (Kd.int .i64) 3 _ _ _ _ (rd_L2 x6_2 x8_2) from ge327_0);clear hv327_0 ge327_0;have HX327_0:=qA hx327_0;clear hcc327 hce327;have HR327_0:=qA hi327_0;have HC327_0:=qA hl327_0;clear hi327_0 hl327_0;replace p327:=eq_true p327;replace q327:=eq_true q327;have p328:0≤(x8_2:Int):=of_decide_eq_true qy73;have q328:x8_2 < (x6_2.length:Int):=of_decide_eq_true qy73;obtain ⟨ad328,A328_0,c328_0,e328,hx328_0,hl328_0,hi328_0⟩:=at_L2 (Kd.S_reads' HO_6.out).2.2 x8_2 p328 q328
               obtain rfl:ad327=ad328:=(by injection e328)
               obtain ⟨ce328,hce328,hMe328,hcc328⟩:=Kd.S_get HO_6.out [] x8_2 p328 qy25;obtain ⟨ve328_0,rfl,ge328_0⟩:=hMe328;have hv328_0:=hcc328 0 _ rfl;rw [Nat.add_zero,show ((Kd.slice 3 (Kd.int .i64))).sz=1 from rfl,Nat.mul_one] at hv328_0;replace hv328_0:=Option.some.inj (hv328_0.symm.trans hx328_0);rw [hv328_0] at ge328_0;have HL328_0:=qA (show Kd.R (Kd.int .i64) 3 _ _ _ _ (rd_L2 x6_2 x8_2) from ge328_0);clear hv328_0 ge328_0;have HX328_0:=qA hx328_0;clear hcc328 hce328;have HR328_0:=qA hi328_0;have HC328_0:=qA hl328_0;clear hi328_0 hl328_0;replace p328:=eq_true p328;replace q328:=eq_true q328;have ea_:=Option.some.inj (hx327_0.symm.trans hx328_0);injection ea_ with ea_ en_ ec_
               subst ea_;subst ec_;clear en_;have p329:0≤(x9_3:Int):=of_decide_eq_true qy73;have q329:x9_3 < ((rd_L2 x6_2 x8_2).length:Int):=of_decide_eq_true qy73;obtain ⟨ad329,e329,hx329_0⟩:=Kd.at_int qy6 x9_3 p329 q329;cases e329;replace p329:=eq_true p329;replace q329:=eq_true q329;have p330:0≤(x8_2:Int):=of_decide_eq_true qy73;have q330:x8_2 < (x6_2.length:Int):=of_decide_eq_true qy73;obtain ⟨ad330,A330_0,c330_0,e330,hx330_0,hl330_0,hi330_0⟩:=at_L2 (Kd.S_reads' HO_6.out).2.2 x8_2 p330 q330
               obtain rfl:ad327=ad330:=(by injection e330)
               obtain ⟨ce330,hce330,hMe330,hcc330⟩:=Kd.S_get HO_6.out [] x8_2 p330 (by first|exact q330|exact of_decide_eq_true qy73|(have e_:=(Kd.S_reads' HO_6.out).1;omega));obtain ⟨ve330_0,rfl,ge330_0⟩:=hMe330;have hv330_0:=hcc330 0 _ rfl;rw [Nat.add_zero,show ((Kd.slice 3 (Kd.int .i64))).sz=1 from rfl,Nat.mul_one] at hv330_0;replace hv330_0:=Option.some.inj (hv330_0.symm.trans hx330_0);rw [hv330_0] at ge330_0;have HL330_0:=qA (show Kd.R (Kd.int .i64) 3 _ _ _ _ (rd_L2 x6_2 x8_2) from ge330_0);clear hv330_0 ge330_0;have HX330_0:=qA hx330_0;clear hcc330 hce330;have HR330_0:=qA hi330_0;have HC330_0:=qA hl330_0;clear hi330_0 hl330_0;replace p330:=eq_true p330;replace q330:=eq_true q330;have ea_:=Option.some.inj (hx327_0.symm.trans hx330_0);injection ea_ with ea_ en_ ec_
               subst ea_;subst ec_;clear en_;have p336:0≤(x8_2:Int):=of_decide_eq_true qy73;have q336:x8_2 < (x6_2.length:Int):=of_decide_eq_true qy73;obtain ⟨ad336,A336_0,c336_0,e336,hx336_0,hl336_0,hi336_0⟩:=at_L2 (Kd.S_reads' HO_6.out).2.2 x8_2 p336 q336
               obtain rfl:ad327=ad336:=(by injection e336)
               obtain ⟨ce336,hce336,hMe336,hcc336⟩:=Kd.S_get HO_6.out [] x8_2 p336 (by first|exact q336|exact of_decide_eq_true qy73|(have e_:=(Kd.S_reads' HO_6.out).1;omega));obtain ⟨ve336_0,rfl,ge336_0⟩:=hMe336;have hv336_0:=hcc336 0 _ rfl;rw [Nat.add_zero,show ((Kd.slice 3 (Kd.int .i64))).sz=1 from rfl,Nat.mul_one] at hv336_0;replace hv336_0:=Option.some.inj (hv336_0.symm.trans hx336_0);rw [hv336_0] at ge336_0;have HL336_0:=qA (show Kd.R (Kd.int .i64) 3 _ _ _ _ (rd_L2 x6_2 x8_2) from ge336_0);clear hv336_0 ge336_0;have HX336_0:=qA hx336_0;clear hcc336 hce336;have HR336_0:=qA hi336_0;have HC336_0:=qA hl336_0;clear hi336_0 hl336_0;replace p336:=eq_true p336;replace q336:=eq_true q336;have ea_:=Option.some.inj (hx327_0.symm.trans hx336_0);injection ea_ with ea_ en_ ec_
               subst ea_;subst ec_;clear en_;have p337:0≤(x9_3:Int):=of_decide_eq_true qy73;have q337:x9_3 < ((rd_L2 x6_2 x8_2).length:Int):=of_decide_eq_true qy73;obtain ⟨ad337,e337,hx337_0⟩:=Kd.at_int (by repeat (first|(with_reducible exact HR336_0.out)|(with_reducible refine Kd.C_alloc ?_ _)|(with_reducible refine Kd.C_drewN ?_ _)|(with_reducible refine Kd.C_drew ?_)|exact HR336_0.out)) x9_3 p337 q337;cases e337;replace p337:=eq_true p337;replace q337:=eq_true q337;have p338:0≤(x8_2:Int):=of_decide_eq_true qy73;have q338:x8_2 < (x6_2.length:Int):=of_decide_eq_true qy73;obtain ⟨ad338,A338_0,c338_0,e338,hx338_0,hl338_0,hi338_0⟩:=at_L2 (Kd.S_reads' HO_6.out).2.2 x8_2 p338 q338
               obtain rfl:ad327=ad338:=(by injection e338)
               obtain ⟨ce338,hce338,hMe338,hcc338⟩:=Kd.S_get HO_6.out [] x8_2 p338 (by first|exact q338|exact of_decide_eq_true qy73|(have e_:=(Kd.S_reads' HO_6.out).1;omega));obtain ⟨ve338_0,rfl,ge338_0⟩:=hMe338;have hv338_0:=hcc338 0 _ rfl;rw [Nat.add_zero,show ((Kd.slice 3 (Kd.int .i64))).sz=1 from rfl,Nat.mul_one] at hv338_0;replace hv338_0:=Option.some.inj (hv338_0.symm.trans hx338_0);rw [hv338_0] at ge338_0;have HL338_0:=qA (show Kd.R (Kd.int .i64) 3 _ _ _ _ (rd_L2 x6_2 x8_2) from ge338_0);clear hv338_0 ge338_0;have HX338_0:=qA hx338_0;clear hcc338 hce338;have HR338_0:=qA hi338_0;have HC338_0:=qA hl338_0;clear hi338_0 hl338_0;replace p338:=eq_true p338;replace q338:=eq_true q338;have ea_:=Option.some.inj (hx327_0.symm.trans hx338_0);injection ea_ with ea_ en_ ec_
               subst ea_;subst ec_;clear en_;have p33:0≤(x9_3:Int):=of_decide_eq_true qy73;have q33:(x9_3:Int) < (((rd_L2 x6_2 x8_2).length:Int):Int):=of_decide_eq_true qy73;obtain ⟨go33,co33,eo33,gb33,gl33,cl33,HG33⟩:=Kd.R_form HL338_0.out (by omega)
               (first|cases eo33|(injection eo33 with ea_ en_ ec_;(first|subst ea_|(injection ea_ with ea_;subst ea_));subst ec_;clear en_))
               have GB33:=qA gb33;have GG33:=qA HG33;clear gb33 gl33 HG33
               (first|simp only [add_plain] at hx337_0|skip)
               obtain ⟨hx33_0,hf33_0⟩:=Kd.R_celln 0 HL338_0.out (x9_3:Int) p33 q33;replace p33:=eq_true p33;replace q33:=eq_true q33
               have hq34:(x8_2:Int) < (x6_2.length:Int):=(by have h_:(x8_2:Int) < ((x6_2.length:Int):Int):=of_decide_eq_true qy73;first|exact h_|(have e_:=(Kd.S_reads' HO_6.out).1;omega)|simpa only [List.length_set,List.length_set] using h_)
               obtain ⟨oki34,ce34,hcl34,hM34,hcc34,hok34,hbk34⟩:=Kd.S_borrow HO_6.out [] (x8_2:Int) (of_decide_eq_true qy73) hq34;obtain ⟨ve34_0,rfl,ge34_0⟩:=hM34;have hv34:=hcc34 0 _ rfl;rw [Nat.add_zero,show ((Kd.slice 3 (Kd.int .i64))).sz=1 from rfl,Nat.mul_one] at hv34;replace hv34:=Option.some.inj (hv34.symm.trans HX338_0.out);subst hv34;clear hcc34 hcl34
               replace ge34_0:=(show Kd.R (Kd.int .i64) 3 _ _ _ _ (rd_L2 x6_2 x8_2) from ge34_0)
               have HP34:=Kd.R_putg ge34_0 (x9_3:Int) x1_2
               go_wp2_with (first|((with_reducible refine gate_store (t:=3) (p:=90) rfl ?_);refine store_event (t:=3) (p:=90) (v:=?vo_w35) (w1:=(wr.setCell ⟨go33,(x9_3:Int).toNat,none⟩ (.int .i64 x1_2))) ?hg ?ho ?hn ?hr ?_;(case ho=>rfl);(case hg=>rfl);(case hn=>rfl);(case hr=>first|(go_simp;done)|(go_simp;rfl));intro w35 hw;have hg:wr.grownBy w35 (some go33):=(by rw [hw];exact HP34.2);have hz_:Kd.R (Kd.int .i64) 3 w35 w.heap.size oki34 (.slice (some ⟨go33,0,none⟩) (rd_L2 x6_2 x8_2).length c327_0) y339:=(by rw [hw,Ny339.out];exact HP34.1);have hp_:Kd.S (Kd.slice 3 (Kd.int .i64)) 36 w35 w.heap.size (fun _=>True) (.slice (some ad327) x6_2.length co19) y341:=(by rw [Ny341.out];exact hbk34 hg (fun k_ e_=>by injection e_ with e_;subst e_;exact ge34_0.1 _ rfl) (Kd.M_row hz_));have hm_:=Kd.R_mono hz_ hok34;clear HP34 hbk34;have n0_:=qA (hp_);have n1_:=qA ((by rw [hw];exact below_set (HB.out) GB33.out:Below w.heap.size w w35));have n2_:=qA (hm_);have n3_:=qA ((Kd.R_reads' hm_).2.1);clear HO_6;clear HB;clear HL327_0;clear HL328_0;clear HL330_0;clear HL336_0;clear HL338_0;have HO_6:=n0_;have HB:=n1_;have HL349:=n2_;have HC340:=n3_;clear n0_ n1_ n2_ n3_;clear hg hw hp_ hz_ hm_ hok34))
               go_roundg k3
               case measure=>have:=HK1.out;have:=HK2.out;have:=HK3.out;omega
               case rel=>exact ⟨(rd (rd_L2 x6_2 x8_2) x9_3),(y341),(wrap64 (x8_2+1)),qy76,qy76,H',⟨qy72⟩,⟨qy57⟩,⟨qy33⟩⟩
            ·rw [if_neg c23] at H;exact absurd H (by simp)
           ·rw [if_neg c22] at H;have c22b0:decide (x9_3 < ((rd_L2 x6_2 x8_2).length:Int))=false:=decide_eq_false c22;clear c22;by_cases c36:x9_3=((rd_L2 x6_2 x8_2).length:Int)
            ·rw [if_pos c36] at H;have c36b0:(x9_3==((rd_L2 x6_2 x8_2).length:Int))=true:=beq_iff_eq.mpr c36;have c36b1:(x9_3 != ((rd_L2 x6_2 x8_2).length:Int))=false:=bne_eq_false_iff_eq.mpr c36;clear c36;by_cases c37:(rd_L2 x6_2 x8_2).length < 17592186044416
             ·rw [if_pos c37] at H;have LMc37:=qA c37;clear c37
              obtain ⟨y344,hy344⟩:∃ y_:List Int,y_=((rd_L2 x6_2 x8_2)++[x1_2]):=⟨_,rfl⟩
              replace H:(some ((x6_2.set (x8_2:Int).toNat y344),x8_2))=some (r1,r2):=by first|(rw [hy344];with_reducible exact H)|(have H2_:=(Option.bind_some _ _).symm.trans H;rw [hy344];with_reducible exact H2_)|(have H2_:=(Option.bind_some _ _).symm.trans H;with_reducible exact H2_)|with_reducible exact H|(rw [hy344];exact H)|exact H
              have Ny344:=qA hy344;clear hy344
              obtain ⟨y347,hy347⟩:∃ y_:List (List Int),y_=(x6_2.set (x8_2:Int).toNat y344):=⟨_,rfl⟩
              replace H:(some (y347,x8_2))=some (r1,r2):=by first|(rw [hy347];with_reducible exact H)|(have H2_:=(Option.bind_some _ _).symm.trans H;rw [hy347];with_reducible exact H2_)|(have H2_:=(Option.bind_some _ _).symm.trans H;with_reducible exact H2_)|with_reducible exact H|(rw [hy347];exact H)|exact H
              have Ny347:=qA hy347;clear hy347;simp only [Option.some.injEq,Prod.mk.injEq] at H;obtain ⟨rfl,rfl⟩:=H;have p327:0≤(x8_2:Int):=of_decide_eq_true qy73;have q327:x8_2 < (x6_2.length:Int):=of_decide_eq_true qy73;obtain ⟨ad327,A327_0,c327_0,e327,hx327_0,hl327_0,hi327_0⟩:=at_L2 (Kd.S_reads' HO_6.out).2.2 x8_2 p327 q327;cases e327;obtain ⟨ce327,hce327,hMe327,hcc327⟩:=Kd.S_get HO_6.out [] x8_2 p327 qy26;obtain ⟨ve327_0,rfl,ge327_0⟩:=hMe327;have hv327_0:=hcc327 0 _ rfl;rw [Nat.add_zero,show ((Kd.slice 3 (Kd.int .i64))).sz=1 from rfl,Nat.mul_one] at hv327_0;replace hv327_0:=Option.some.inj (hv327_0.symm.trans hx327_0);rw [hv327_0] at ge327_0;have HL327_0:=qA (show Kd.R (Kd.int .i64) 3 _ _ _ _ (rd_L2 x6_2 x8_2) from ge327_0);clear hv327_0 ge327_0;have HX327_0:=qA hx327_0;clear hcc327 hce327;have HR327_0:=qA hi327_0;have HC327_0:=qA hl327_0;clear hi327_0 hl327_0;replace p327:=eq_true p327;replace q327:=eq_true q327;have p342:0≤(x8_2:Int):=of_decide_eq_true qy73;have q342:x8_2 < (x6_2.length:Int):=of_decide_eq_true qy73;obtain ⟨ad342,A342_0,c342_0,e342,hx342_0,hl342_0,hi342_0⟩:=at_L2 (Kd.S_reads' HO_6.out).2.2 x8_2 p342 q342
              obtain rfl:ad327=ad342:=(by injection e342)
              obtain ⟨ce342,hce342,hMe342,hcc342⟩:=Kd.S_get HO_6.out [] x8_2 p342 (by first|exact q342|exact of_decide_eq_true qy73|(have e_:=(Kd.S_reads' HO_6.out).1;omega));obtain ⟨ve342_0,rfl,ge342_0⟩:=hMe342;have hv342_0:=hcc342 0 _ rfl;rw [Nat.add_zero,show ((Kd.slice 3 (Kd.int .i64))).sz=1 from rfl,Nat.mul_one] at hv342_0;replace hv342_0:=Option.some.inj (hv342_0.symm.trans hx342_0);rw [hv342_0] at ge342_0;have HL342_0:=qA (show Kd.R (Kd.int .i64) 3 _ _ _ _ (rd_L2 x6_2 x8_2) from ge342_0);clear hv342_0 ge342_0;have HX342_0:=qA hx342_0;clear hcc342 hce342;have HR342_0:=qA hi342_0;have HC342_0:=qA hl342_0;clear hi342_0 hl342_0;replace p342:=eq_true p342;replace q342:=eq_true q342;have ea_:=Option.some.inj (hx327_0.symm.trans hx342_0);injection ea_ with ea_ en_ ec_
              subst ea_;subst ec_;clear en_;have p343:0≤(x8_2:Int):=of_decide_eq_true qy73;have q343:x8_2 < (x6_2.length:Int):=of_decide_eq_true qy73;obtain ⟨ad343,A343_0,c343_0,e343,hx343_0,hl343_0,hi343_0⟩:=at_L2 (Kd.S_reads' HO_6.out).2.2 x8_2 p343 q343
              obtain rfl:ad327=ad343:=(by injection e343)
              obtain ⟨ce343,hce343,hMe343,hcc343⟩:=Kd.S_get HO_6.out [] x8_2 p343 (by first|exact q343|exact of_decide_eq_true qy73|(have e_:=(Kd.S_reads' HO_6.out).1;omega));obtain ⟨ve343_0,rfl,ge343_0⟩:=hMe343;have hv343_0:=hcc343 0 _ rfl;rw [Nat.add_zero,show ((Kd.slice 3 (Kd.int .i64))).sz=1 from rfl,Nat.mul_one] at hv343_0;replace hv343_0:=Option.some.inj (hv343_0.symm.trans hx343_0);rw [hv343_0] at ge343_0;have HL343_0:=qA (show Kd.R (Kd.int .i64) 3 _ _ _ _ (rd_L2 x6_2 x8_2) from ge343_0);clear hv343_0 ge343_0;have HX343_0:=qA hx343_0;clear hcc343 hce343;have HR343_0:=qA hi343_0;have HC343_0:=qA hl343_0;clear hi343_0 hl343_0;replace p343:=eq_true p343;replace q343:=eq_true q343;have ea_:=Option.some.inj (hx327_0.symm.trans hx343_0);injection ea_ with ea_ en_ ec_
              subst ea_;subst ec_;clear en_;obtain ⟨go39,co39,eo39,gb39,gl39,cl39,HG39⟩:=Kd.S_form HO_6.out (by have h_:(x8_2:Int) < ((x6_2.length:Int):Int):=of_decide_eq_true qy73;have h2_:0≤(x8_2:Int):=(of_decide_eq_true qy73);omega)
              (first|cases eo39|(injection eo39 with ea_ en_ ec_;(first|subst ea_|(injection ea_ with ea_;subst ea_));subst ec_;clear en_))
              have GB39:=qA gb39;have GG39:=qA HG39;clear gb39 gl39 HG39
              (first|simp only [add_plain] at hx327_0|skip)
              (first|simp only [add_plain] at hx328_0|skip)
              (first|simp only [add_plain] at hx330_0|skip)
              (first|simp only [add_plain] at hx336_0|skip)
              (first|simp only [add_plain] at hx338_0|skip)
              (first|simp only [add_plain] at hx342_0|skip)
              (first|simp only [add_plain] at hx343_0|skip)
              obtain ⟨oki39,ce39,hcl39,hM39,hcc39,_,_,hH39⟩:=Kd.S_elem HO_6.out [] (x8_2:Int) (of_decide_eq_true qy73) (by have h_:(x8_2:Int) < ((x6_2.length:Int):Int):=of_decide_eq_true qy73;first|exact h_|(have e_:=(Kd.S_reads' HO_6.out).1;omega)|simpa using h_);obtain ⟨ve39_0,rfl,ge39_0⟩:=hM39;have hv39:=hcc39 0 _ rfl;have hX39:=HX343_0.out
              (try simp only [add_plain] at hX39)
              (try simp only [Nat.add_zero] at hv39)
              (try rw [show ((Kd.slice 3 (Kd.int .i64))).sz=1 from rfl,Nat.mul_one] at hv39)
              replace hv39:=Option.some.inj (hv39.symm.trans hX39);subst hv39;clear hX39 hcc39 hcl39;have UU39:=qA (show Kd.R (Kd.int .i64) 3 _ w.heap.size oki39 (.slice A327_0 (rd_L2 x6_2 x8_2).length c327_0) (rd_L2 x6_2 x8_2) from ge39_0);have HH39:=qA hH39;have HN39:=qA (Kd.S_reads' HO_6.out).1;clear hH39 ge39_0
              go_wp2_with (first|((with_reducible refine gate_builtin (b:=.append) (xs:= #[.tmp 70,.tmp 72]) rfl ?_);at_builtin;refine Kd.R_append (Kd.int .i64) (w0:=w) w.heap.size rfl (.tmp 70) (.tmp 72) 36 3 (.int .i64 0) 8 rfl Tryz.underlying36 info3 rfl (by decide) (by omega) (.slice A327_0 (rd_L2 x6_2 x8_2).length c327_0) (rd_L2 x6_2 x8_2) x1_2 [.int .i64 x1_2] (fun k_=>oki39 k_∨((fun _=>True)) k_∧wr.heap.size≤k_) (fun _=>False) rfl rfl ?aP (fun _ hk=>hk.elim) ?aF ?aO ?aB ?aS ?aL ?_;(case aP=>exact rfl);(case aB=>exact qy33);(case aF=>exact (fun k_ hk=>.inr ⟨trivial,hk⟩));(case aO=>exact (by (with_reducible repeat (first|apply Kd.R_alloc|apply Kd.R_drewN|apply Kd.R_drew));exact Kd.R_mono UU39.out (fun _ hk=>.inl hk)));(case aS=>exact (below_size qy33));(case aL=>have:=LMc37.out;omega);intro v345 w40 ho hb hg hat;rw [← Ny344.out] at ho;have n0_:=qA (hb);have n1_:=qA (Kd.H_grown (Kd.H_widen (by repeat (first|exact HH39.out|refine Kd.H_alloc ?_ _|refine Kd.H_drewN ?_ _|refine Kd.H_drew ?_))) hg (fun k_ e_=>.inl (UU39.out.1 k_ e_)));have n2_:=qA (ho);clear HB;clear HH39;clear HO_6;clear UU39;clear HL327_0;clear HL342_0;clear HL343_0;have HB:=n0_;have HH39:=n1_;have HO346:=n2_;clear n0_ n1_ n2_;clear ho hb hg hat;have p38:0≤(x8_2:Int):=of_decide_eq_true qy73;have q38:(x8_2:Int) < ((x6_2.length:Int):Int):=of_decide_eq_true qy73;replace p38:=eq_true p38;replace q38:=eq_true q38;obtain ⟨Ao43,co43,eo43⟩:=Kd.R_slice HO346.out;subst eo43;obtain ⟨_,_,hraw41,_,_,hcc41,_⟩:=Kd.H_raw HH39.out (of_decide_eq_true qy73) (by have h_:(x8_2:Int) < ((x6_2.length:Int):Int):=of_decide_eq_true qy73;first|exact h_|(have e_:=(HN39.out);omega)|simpa using h_);obtain ⟨_,hfr41⟩:=Kd.H_at HH39.out (of_decide_eq_true qy73) (by have h_:(x8_2:Int) < ((x6_2.length:Int):Int):=of_decide_eq_true qy73;first|exact h_|(have e_:=(HN39.out);omega)|simpa using h_);have hx41_0:=hcc41 0 _ rfl;have hf41_0:=hfr41 0;(try simp only [Nat.add_zero] at hx41_0 hf41_0);(try rw [show ((Kd.slice 3 (Kd.int .i64))).sz=1 from rfl,Nat.mul_one] at hx41_0);(try rw [show ((Kd.slice 3 (Kd.int .i64))).sz=1 from rfl,Nat.mul_one] at hf41_0);have HP41:=Kd.S_seg0 HH39.out (of_decide_eq_true qy73) (by have h_:(x8_2:Int) < ((x6_2.length:Int):Int):=of_decide_eq_true qy73;first|exact h_|(have e_:=(HN39.out);omega)|simpa using h_) (seg:=[.slice Ao43 y344.length co43]) (j:=0) (show 1≤1 from by decide) (x':=y344) (Kd.M_row HO346.out) (fun _ hk=>hk);(try simp only [show ((Kd.slice 3 (Kd.int .i64))).sz=1 from rfl,Nat.mul_one,Nat.add_zero] at HP41);clear hcc41 hfr41)|((with_reducible refine gate_store (t:=36) (p:=74) rfl ?_);refine store_event (t:=36) (p:=74) (v:=?vo_w42) (w1:=(w40.setCell ⟨go39,(x8_2:Int).toNat,none⟩ (.slice Ao43 y344.length co43))) ?hg ?ho ?hn ?hr ?_;(case ho=>rfl);(case hg=>rfl);(case hn=>rfl);(case hr=>first|(go_simp;done)|(go_simp;rfl));intro w42 hw;have hg:w40.grownBy w42 (some go39):=(by rw [hw];exact HP41.2);have hp_:Kd.S (Kd.slice 3 (Kd.int .i64)) 36 w42 w.heap.size (fun _=>True) (.slice (some ⟨go39,0,none⟩) x6_2.length co19) y347:=(by rw [hw,Ny347.out];exact HP41.1);clear HP41;have n0_:=qA ((by rw [hw];exact below_set HB.out GB39.out:Below w.heap.size w w42));have n1_:=qA (hp_);clear HB;clear HO346;clear HH39;have HB:=n0_;have HO_6:=n1_;clear n0_ n1_;clear hg hw hp_ hraw41))
              go_ret2;exact ⟨_,qy68,qy57,qy33⟩
             ·rw [if_neg c37] at H;exact absurd H (by simp)
            ·rw [if_neg c36] at H;have c36b0:(x9_3==((rd_L2 x6_2 x8_2).length:Int))=false:=beq_eq_false_iff_ne.mpr c36;have c36b1:(x9_3 != ((rd_L2 x6_2 x8_2).length:Int))=true:=bne_iff_ne.mpr c36;by_cases c44:0≤x9_3
             ·rw [if_pos c44] at H;exact absurd H (by simp)
             ·rw [if_neg c44] at H;exact absurd H (by simp)
          ·rw [if_neg c21] at H;exact absurd H (by simp)
         ·rw [if_neg c20] at H;exact absurd H (by simp)

end Go.Proofs.YtaoecbpfocillaaGreat.Xdz
