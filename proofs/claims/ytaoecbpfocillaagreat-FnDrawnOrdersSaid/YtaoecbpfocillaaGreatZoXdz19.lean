-- Written by this session's own program (xprint.py) over the kit's print.py: functions, contracts and rows of the laws of one seat.
import Derived.Test.YtaoecbpfocillaaGreatZoXdz0
import Derived.Test.YtaoecbpfocillaaGreatZoXdz15
namespace Go.Proofs.YtaoecbpfocillaaGreat.Xdz
open Go.RowKit Go.Proofs.YtaoecbpfocillaaGreatW.PrintWords Go.Proofs.YtaoecbpfocillaaGreatW.PrintLast Go.Proofs.YtaoecbpfocillaaGreatW.PrintMore
attribute [local go_sem] max2_int min2_int max_two min_two max_three min_three max_four min_four -- for this text's walks alone
set_option linter.unusedVariables false
set_option linter.unusedSimpArgs false

/-! ### spec_l3Patterns: function 73 -/
mutual
def spec_l3Patterns.l0:Nat→List (List Int)→Int→Option (Bool)
 |0,_,_=>none
 |k+1,x0,x3=>if x3 < (x0.length:Int) then (spec_l3Patterns.j1 k x0 x3 (decide (x3≤4))) else (spec_l3Patterns.j1 k x0 x3 false)
def spec_l3Patterns.j1:Nat→List (List Int)→Int→Bool→Option (Bool)
 |0,_,_,_=>none
 |k+1,x0,x3,x11=>if x11=true then (if 0≤x3 then (if x3 < (x0.length:Int) then ((spec_l2Order.f k (rd_L2 x0 x3)).bind fun t522=>(if t522=true then (spec_l3Patterns.l0 k x0 (wrap64 (x3+1))) else (some false))) else (none)) else (none)) else (some (decide ((x0.length:Int)≤4)))
end
def spec_l3Patterns.f (k:Nat) (l0:List (List Int)):Option (Bool):=spec_l3Patterns.l0 k l0 0
set_option maxHeartbeats 8000000 in
set_option maxRecDepth 100000 in
theorem spec_l3Patterns.calls (k:Nat) (A0:Option Addr) (c0:Nat) (l0:List (List Int)) (r:Bool) (w:World) (hr0:Kd.C (Kd.slice 3 (Kd.int .i64)) w A0 l0.length l0) (hc0:l0.length≤c0) (h:spec_l3Patterns.f k l0=some r):
  Calls Tryz.prog 73 #[.slice A0 l0.length c0] w fun e w'=>e=.returned (.bool r)∧Drawn0 w w':=by
 have HR0:=qA hr0;have HC0:=qA hc0;clear hr0 hc0;have H:(spec_l3Patterns.l0 k l0 0)=some r:=h;clear h;have H':=qA H;clear H;go_enter Tryz.func73,Tryz.ntmps73
 go_wp2
 go_loopg [3] k (fun kq v3 w'=>∃ (x3_1:Int),v3=.int .i64 x3_1∧Aside0 (spec_l3Patterns.l0 kq l0 x3_1=some r)∧Aside0 (kq≤k)∧Drawn0 w w')
 case atStart=>exact ⟨(0),qy76,H',⟨Nat.le_refl _⟩,qy71⟩
 case round=>
  clear H';obtain ⟨x3_1,rfl,HA,HK1,⟨m1,rfl⟩⟩:=hrel
  cases gk with
  |zero=>exact absurd HA.out (by simp [spec_l3Patterns.l0])
  |succ k1=>
   have H:=HA.out;clear HA;simp only [spec_l3Patterns.l0] at H;have HC2:=qA H;clear H
   go_upto_region 2 with (fail)
   go_cut [11] (fun v11 wc=>∃ (kq:Nat) (x11_1:Bool),v11=.bool x11_1∧Aside0 (spec_l3Patterns.j1 kq l0 x3_1 x11_1=some r)∧Aside0 (kq≤k1)∧Drawn0 w wc)
   case first=>
    have H:=HC2.out;clear HC2;by_cases c3:x3_1 < (l0.length:Int)
    ·rw [if_pos c3] at H;have c3b0:decide (x3_1 < (l0.length:Int))=true:=decide_eq_true c3;clear c3
     (first|rw [c3b0]|(simp only [i64_w,i32_w];rw [c3b0])|skip)
     have H':=qA H;clear H
     go_wp2
     go_meet
     case rel=>exact ⟨_,(decide (x3_1≤4)),qy76,H',⟨(by have:=HK1.out;first|omega|exact Nat.le_refl _)⟩,qy71⟩
    ·rw [if_neg c3] at H;have c3b0:decide (x3_1 < (l0.length:Int))=false:=decide_eq_false c3;clear c3
     (first|rw [c3b0]|(simp only [i64_w,i32_w];rw [c3b0])|skip)
     have H':=qA H;clear H
     go_wp2
     go_meet
     case rel=>exact ⟨_,(false),qy76,H',⟨(by have:=HK1.out;first|omega|exact Nat.le_refl _)⟩,qy71⟩
   case rest=>
    clear HC2
    try clear p2
    try clear c3
    try clear c3b0
    obtain ⟨kq,x11_1,rfl,HA,HJ1,⟨mc1,rfl⟩⟩:=hcut
    cases kq with
    |zero=>exact absurd HA.out (by simp [spec_l3Patterns.j1])
    |succ kj1=>
     have H:=HA.out;clear HA;simp only [spec_l3Patterns.j1] at H;by_cases c4:x11_1=true
     ·subst c4;have H1:(if 0≤x3_1 then (if x3_1 < (l0.length:Int) then ((spec_l2Order.f kj1 (rd_L2 l0 x3_1)).bind fun t522=>(if t522=true then (spec_l3Patterns.l0 kj1 l0 (wrap64 (x3_1+1))) else (some false))) else (none)) else (none))=some r:=by rw [if_pos rfl] at H;exact H
      clear H;have H:=H1;clear H1;by_cases c5:0≤x3_1
      ·rw [if_pos c5] at H;have c5b0:decide (0≤x3_1)=true:=decide_eq_true c5;clear c5;by_cases c6:x3_1 < (l0.length:Int)
       ·rw [if_pos c6] at H;have c6b0:decide (x3_1 < (l0.length:Int))=true:=decide_eq_true c6;clear c6;replace H:=Option.bind_eq_some_iff.mp H;obtain ⟨t522,A70,H⟩:=H;replace H:(if t522=true then (spec_l3Patterns.l0 kj1 l0 (wrap64 (x3_1+1))) else (some false))=some r:=H;have A7:=qA A70;clear A70;by_cases c8:t522=true
        ·subst c8;have H1:(spec_l3Patterns.l0 kj1 l0 (wrap64 (x3_1+1)))=some r:=by rw [if_pos rfl] at H;exact H
         clear H;have H:=H1;clear H1;have H':=qA H;clear H;have p521:0≤(x3_1:Int):=of_decide_eq_true qy73;have q521:x3_1 < (l0.length:Int):=of_decide_eq_true qy73;obtain ⟨ad521,A521_0,c521_0,e521,hx521_0,hl521_0,hi521_0⟩:=at_L2 HR0.out x3_1 p521 q521;cases e521;have HR521_0:=qA hi521_0;have HC521_0:=qA hl521_0;clear hi521_0 hl521_0;replace p521:=eq_true p521;replace q521:=eq_true q521
         go_wp2_with (first|((with_reducible refine gate_callee (f:=82) rfl ?_);refine goesL_ (some 18) rfl rfl Tryz.func82 (by kernel_rfl) rfl #[.slice A521_0 (rd_L2 l0 x3_1).length c521_0] rfl qy29 ?_;(with_reducible refine (spec_l2Order.calls kj1 _ _ (rd_L2 l0 x3_1) true _ ?side1 ?side2 A7.out).mono ?_);(case side1=>repeat (first|exact HR521_0.out|(with_reducible refine Kd.C_alloc ?_ _)|(with_reducible refine Kd.C_drewN ?_ _)|(with_reducible refine Kd.C_drew ?_)));(case side2=>exact HC521_0.out);rintro e w' ⟨rfl,⟨nd,rfl⟩⟩;refine ⟨_,rfl,?_⟩))
         go_roundg kj1
         case measure=>have:=HK1.out;have:=HJ1.out;omega
         case rel=>exact ⟨(wrap64 (x3_1+1)),qy76,H',⟨(by have:=HK1.out;have:=HJ1.out;omega)⟩,qy71⟩
        ·replace c8:=Bool.eq_false_iff.mpr c8;subst c8;have H1:(some false)=some r:=by rw [if_neg (show ¬ (false=true) by decide)] at H;exact H
         clear H;have H:=H1;clear H1;obtain rfl:=Option.some.inj H;have p521:0≤(x3_1:Int):=of_decide_eq_true qy73;have q521:x3_1 < (l0.length:Int):=of_decide_eq_true qy73;obtain ⟨ad521,A521_0,c521_0,e521,hx521_0,hl521_0,hi521_0⟩:=at_L2 HR0.out x3_1 p521 q521;cases e521;have HR521_0:=qA hi521_0;have HC521_0:=qA hl521_0;clear hi521_0 hl521_0;replace p521:=eq_true p521;replace q521:=eq_true q521
         go_wp2_with (first|((with_reducible refine gate_callee (f:=82) rfl ?_);refine goesL_ (some 18) rfl rfl Tryz.func82 (by kernel_rfl) rfl #[.slice A521_0 (rd_L2 l0 x3_1).length c521_0] rfl qy29 ?_;(with_reducible refine (spec_l2Order.calls kj1 _ _ (rd_L2 l0 x3_1) false _ ?side1 ?side2 A7.out).mono ?_);(case side1=>repeat (first|exact HR521_0.out|(with_reducible refine Kd.C_alloc ?_ _)|(with_reducible refine Kd.C_drewN ?_ _)|(with_reducible refine Kd.C_drew ?_)));(case side2=>exact HC521_0.out);rintro e w' ⟨rfl,⟨nd,rfl⟩⟩;refine ⟨_,rfl,?_⟩))
         go_ret;exact ⟨qy76,qy71⟩
       ·rw [if_neg c6] at H;exact absurd H (by simp)
      ·rw [if_neg c5] at H;exact absurd H (by simp)
     ·replace c4:=Bool.eq_false_iff.mpr c4;subst c4;have H1:(some (decide ((l0.length:Int)≤4)))=some r:=by rw [if_neg (show ¬ (false=true) by decide)] at H;exact H
      clear H;have H:=H1;clear H1;obtain rfl:=Option.some.inj H
      go_wp2
      go_ret;exact ⟨qy76,qy71⟩

/-! ### spec_l3Insert: function 124 -/
def spec_l3Insert.l0:Nat→List Int→Int→List Int→Int→Option (List Int)
 |0,_,_,_,_=>none
 |k+1,x0,x1,x5,x6=>if x6 < (x0.length:Int) then (if 0≤x6 then (if (rd x0 x6)≥x1 then (if x5.length < 17592186044416 then (spec_l3Insert.l0 k x0 x1 (x5++[wrap64 ((rd x0 x6)+1)]) (wrap64 (x6+1))) else (none)) else (if x5.length < 17592186044416 then (spec_l3Insert.l0 k x0 x1 (x5++[rd x0 x6]) (wrap64 (x6+1))) else (none))) else (none)) else (if x5.length < 17592186044416 then (some (x5++[x1])) else (none))
def spec_l3Insert.f (k:Nat) (l0:List Int) (a1:Int):Option (List Int):=spec_l3Insert.l0 k l0 a1 (([]:List Int)) 0
set_option maxHeartbeats 8000000 in
set_option maxRecDepth 100000 in
theorem spec_l3Insert.calls (k:Nat) (A0:Option Addr) (c0:Nat) (l0:List Int) (a1:Int) (r:List Int) (w:World) (hr0:Kd.C (Kd.int .i64) w A0 l0.length l0) (hc0:l0.length≤c0) (h:spec_l3Insert.f k l0 a1=some r):
  Calls Tryz.prog 124 #[.slice A0 l0.length c0,.int .i64 a1] w fun e w'=>∃ v0_:Value,e=.returned (v0_)∧Kd.R (Kd.int .i64) 3 w' w.heap.size (fun _=>True) v0_ r∧Below w.heap.size w w':=by
 have HR0:=qA hr0;have HC0:=qA hc0;clear hr0 hc0;have HB:=qA (Below.refl w.heap.size w);have H:(spec_l3Insert.l0 k l0 a1 (([]:List Int)) 0)=some r:=h;clear h
 obtain ⟨y523,hy523⟩:∃ y_:List Int,y_=(([]:List Int)):=⟨_,rfl⟩
 replace H:(spec_l3Insert.l0 k l0 a1 y523 0)=some r:=by first|(rw [hy523];with_reducible exact H)|(have H2_:=(Option.bind_some _ _).symm.trans H;rw [hy523];with_reducible exact H2_)|(have H2_:=(Option.bind_some _ _).symm.trans H;with_reducible exact H2_)|with_reducible exact H|(rw [hy523];exact H)|exact H
 have Ny523:=qA hy523;clear hy523;have H':=qA H;clear H;go_enter Tryz.func124,Tryz.ntmps124
 go_wp2_with (first|((with_reducible refine gate_dst (N:=8) rfl ?_);refine Kd.R_lit (Kd.int .i64) _ 3 ?hg (N:=8) ?hd (xs:=([]:List Int)) (inner:=[]) (ok:=fun _=>True) (okp:=fun _=>True) ?hr ?hp (fun _ hk=>hk) trivial (Below.refl _ _) (Nat.le_refl _) (by simp) ?_;(case hd=>rfl);(case hg=>rfl);(case hr=>first|(go_simp;done)|(go_simp;rfl));(case hp=>exact (Reps.none _ _));intro v524 w3 ho4 hb hg_ hnew_;clear hg_ hnew_;(first|rw [← Ny523.out] at ho4|(simp only [Int.reduceToNat] at ho4;rw [← Ny523.out] at ho4));have n0_:=qA (Kd.R_lower ho4 (below_size qy33));have n1_:=qA (below_step qy33 hb);clear HB;have HO525:=n0_;have HB:=n1_;clear n0_ n1_;clear hb ho4))
 go_loopg [5,6] k (fun kq v5 v6 w'=>∃ (x5_1:List Int) (x6_1:Int),v6=.int .i64 x6_1∧Aside0 (spec_l3Insert.l0 kq l0 a1 x5_1 x6_1=some r)∧Aside0 (kq≤k)∧Aside0 (Kd.R (Kd.int .i64) 3 w' w.heap.size (fun _=>True) v5 x5_1)∧Aside0 (Below w.heap.size w w'))
 case atStart=>exact ⟨(y523),(0),qy76,H',⟨Nat.le_refl _⟩,⟨(by (with_reducible repeat (first|apply Kd.R_alloc|apply Kd.R_drewN|apply Kd.R_drew));exact HO525.out)⟩,⟨qy33⟩⟩
 case round=>
  clear H'
  try clear c1
  try clear p2
  obtain ⟨x5_1,x6_1,rfl,HA,HK1,HO_5,HB⟩:=hrel
  cases gk with
  |zero=>exact absurd HA.out (by simp [spec_l3Insert.l0])
  |succ k1=>
   have H:=HA.out;clear HA;simp only [spec_l3Insert.l0] at H;by_cases c5:x6_1 < (l0.length:Int)
   ·rw [if_pos c5] at H;have c5b0:decide (x6_1 < (l0.length:Int))=true:=decide_eq_true c5;clear c5;by_cases c6:0≤x6_1
    ·rw [if_pos c6] at H;have c6b0:decide (0≤x6_1)=true:=decide_eq_true c6;clear c6;by_cases c7:(rd l0 x6_1)≥a1
     ·rw [if_pos c7] at H;have c7b0:decide (a1≤(rd l0 x6_1))=true:=decide_eq_true c7;clear c7;by_cases c8:x5_1.length < 17592186044416
      ·rw [if_pos c8] at H;have LMc8:=qA c8;clear c8
       obtain ⟨y527,hy527⟩:∃ y_:List Int,y_=(x5_1++[wrap64 ((rd l0 x6_1)+1)]):=⟨_,rfl⟩
       replace H:(spec_l3Insert.l0 k1 l0 a1 y527 (wrap64 (x6_1+1)))=some r:=by first|(rw [hy527];with_reducible exact H)|(have H2_:=(Option.bind_some _ _).symm.trans H;rw [hy527];with_reducible exact H2_)|(have H2_:=(Option.bind_some _ _).symm.trans H;with_reducible exact H2_)|with_reducible exact H|(rw [hy527];exact H)|exact H
       have Ny527:=qA hy527;clear hy527;have H':=qA H;clear H;have p526:0≤(x6_1:Int):=of_decide_eq_true qy73;have q526:x6_1 < (l0.length:Int):=of_decide_eq_true qy73;obtain ⟨ad526,e526,hx526_0⟩:=Kd.at_int HR0.out x6_1 p526 q526;cases e526;replace hx526_0:=(HB.out.cell (World.block_lt_of_cell? w _ hx526_0)).trans hx526_0;replace p526:=eq_true p526;replace q526:=eq_true q526
       go_wp2_with (first|((with_reducible refine gate_builtin (b:=.append) (xs:= #[.tmp 24,.tmp 26]) rfl ?_);at_builtin;refine Kd.R_append (Kd.int .i64) (w0:=w) w.heap.size rfl (.tmp 24) (.tmp 26) 36 3 (.int .i64 0) 8 rfl Tryz.underlying36 info3 rfl (by decide) (by omega) u5 x5_1 (wrap64 ((rd l0 x6_1)+1)) [.int .i64 (wrap64 ((rd l0 x6_1)+1))] (fun _=>True) (fun _=>False) rfl rfl ?aP (fun _ hk=>hk.elim) ?aF ?aO ?aB ?aS ?aL ?_;(case aP=>exact rfl);(case aB=>exact qy33);(case aF=>exact (fun _ _=>trivial));(case aO=>exact qy62);(case aS=>exact (below_size qy33));(case aL=>have:=LMc8.out;omega);intro v528 w9 ho hb hg hat;rw [← Ny527.out] at ho;have n0_:=qA (hb);have n1_:=qA (ho);clear HB;clear HO_5;have HB:=n0_;have HO529:=n1_;clear n0_ n1_;clear ho hb hg hat))
       go_roundg k1
       case measure=>have:=HK1.out;omega
       case rel=>exact ⟨(y527),(wrap64 (x6_1+1)),qy76,H',⟨qy81⟩,⟨(by (with_reducible repeat (first|apply Kd.R_alloc|apply Kd.R_drewN|apply Kd.R_drew));exact HO529.out)⟩,⟨qy33⟩⟩
      ·rw [if_neg c8] at H;exact absurd H (by simp)
     ·rw [if_neg c7] at H;have c7b0:decide (a1≤(rd l0 x6_1))=false:=decide_eq_false c7;clear c7;by_cases c10:x5_1.length < 17592186044416
      ·rw [if_pos c10] at H;have LMc10:=qA c10;clear c10
       obtain ⟨y530,hy530⟩:∃ y_:List Int,y_=(x5_1++[rd l0 x6_1]):=⟨_,rfl⟩
       replace H:(spec_l3Insert.l0 k1 l0 a1 y530 (wrap64 (x6_1+1)))=some r:=by first|(rw [hy530];with_reducible exact H)|(have H2_:=(Option.bind_some _ _).symm.trans H;rw [hy530];with_reducible exact H2_)|(have H2_:=(Option.bind_some _ _).symm.trans H;with_reducible exact H2_)|with_reducible exact H|(rw [hy530];exact H)|exact H
       have Ny530:=qA hy530;clear hy530;have H':=qA H;clear H;have p526:0≤(x6_1:Int):=of_decide_eq_true qy73;have q526:x6_1 < (l0.length:Int):=of_decide_eq_true qy73;obtain ⟨ad526,e526,hx526_0⟩:=Kd.at_int HR0.out x6_1 p526 q526;cases e526;replace hx526_0:=(HB.out.cell (World.block_lt_of_cell? w _ hx526_0)).trans hx526_0;replace p526:=eq_true p526;replace q526:=eq_true q526
       go_wp2_with (first|((with_reducible refine gate_builtin (b:=.append) (xs:= #[.tmp 24,.tmp 26]) rfl ?_);at_builtin;refine Kd.R_append (Kd.int .i64) (w0:=w) w.heap.size rfl (.tmp 24) (.tmp 26) 36 3 (.int .i64 0) 8 rfl Tryz.underlying36 info3 rfl (by decide) (by omega) u5 x5_1 (rd l0 x6_1) [.int .i64 (rd l0 x6_1)] (fun _=>True) (fun _=>False) rfl rfl ?aP (fun _ hk=>hk.elim) ?aF ?aO ?aB ?aS ?aL ?_;(case aP=>exact rfl);(case aB=>exact qy33);(case aF=>exact (fun _ _=>trivial));(case aO=>exact qy62);(case aS=>exact (below_size qy33));(case aL=>have:=LMc10.out;omega);intro v531 w11 ho hb hg hat;rw [← Ny530.out] at ho;have n0_:=qA (hb);have n1_:=qA (ho);clear HB;clear HO_5;have HB:=n0_;have HO532:=n1_;clear n0_ n1_;clear ho hb hg hat))
       go_roundg k1
       case measure=>have:=HK1.out;omega
       case rel=>exact ⟨(y530),(wrap64 (x6_1+1)),qy76,H',⟨qy81⟩,⟨(by (with_reducible repeat (first|apply Kd.R_alloc|apply Kd.R_drewN|apply Kd.R_drew));exact HO532.out)⟩,⟨qy33⟩⟩
      ·rw [if_neg c10] at H;exact absurd H (by simp)
    ·rw [if_neg c6] at H;exact absurd H (by simp)
   ·rw [if_neg c5] at H;have c5b0:decide (x6_1 < (l0.length:Int))=false:=decide_eq_false c5;clear c5;by_cases c12:x5_1.length < 17592186044416
    ·rw [if_pos c12] at H;have LMc12:=qA c12;clear c12
     obtain ⟨y533,hy533⟩:∃ y_:List Int,y_=(x5_1++[a1]):=⟨_,rfl⟩
     replace H:(some y533)=some r:=by first|(rw [hy533];with_reducible exact H)|(have H2_:=(Option.bind_some _ _).symm.trans H;rw [hy533];with_reducible exact H2_)|(have H2_:=(Option.bind_some _ _).symm.trans H;with_reducible exact H2_)|with_reducible exact H|(rw [hy533];exact H)|exact H
     have Ny533:=qA hy533;clear hy533;obtain rfl:=Option.some.inj H
     go_wp2_with (first|((with_reducible refine gate_builtin (b:=.append) (xs:= #[.tmp 28,.tmp 30]) rfl ?_);at_builtin;refine Kd.R_append (Kd.int .i64) (w0:=w) w.heap.size rfl (.tmp 28) (.tmp 30) 36 3 (.int .i64 0) 8 rfl Tryz.underlying36 info3 rfl (by decide) (by omega) u5 x5_1 a1 [.int .i64 a1] (fun _=>True) (fun _=>False) rfl rfl ?aP (fun _ hk=>hk.elim) ?aF ?aO ?aB ?aS ?aL ?_;(case aP=>exact rfl);(case aB=>exact qy33);(case aF=>exact (fun _ _=>trivial));(case aO=>exact qy62);(case aS=>exact (below_size qy33));(case aL=>have:=LMc12.out;omega);intro v534 w13 ho hb hg hat;rw [← Ny533.out] at ho;have n0_:=qA (hb);have n1_:=qA (ho);clear HB;clear HO_5;have HB:=n0_;have HO535:=n1_;clear n0_ n1_;clear ho hb hg hat))
     go_ret;exact ⟨_,qy68,(by (with_reducible repeat (first|apply Kd.R_alloc|apply Kd.R_drewN|apply Kd.R_drew));exact HO535.out),qy33⟩
    ·rw [if_neg c12] at H;exact absurd H (by simp)

/-! ### spec_l1Same: function 84 -/
def spec_l1Same.l0:Nat→List Int→List Int→Int→Option (Bool)
 |0,_,_,_=>none
 |k+1,x0,x1,x5=>if x5 < (x0.length:Int) then (if 0≤x5 then (if x5 < (x1.length:Int) then (if (rd x0 x5)=(rd x1 x5) then (spec_l1Same.l0 k x0 x1 (wrap64 (x5+1))) else (some false)) else (none)) else (none)) else (some true)
def spec_l1Same.f (k:Nat) (l0:List Int) (l1:List Int):Option (Bool):=if (l0.length:Int)=(l1.length:Int) then (spec_l1Same.l0 k l0 l1 0) else (some false)
set_option maxHeartbeats 8000000 in
set_option maxRecDepth 100000 in
theorem spec_l1Same.calls (k:Nat) (A0:Option Addr) (c0:Nat) (l0:List Int) (A1:Option Addr) (c1:Nat) (l1:List Int) (r:Bool) (w:World) (hr0:Kd.C (Kd.int .i64) w A0 l0.length l0) (hc0:l0.length≤c0) (hr1:Kd.C (Kd.int .i64) w A1 l1.length l1) (hc1:l1.length≤c1) (h:spec_l1Same.f k l0 l1=some r):
  Calls Tryz.prog 84 #[.slice A0 l0.length c0,.slice A1 l1.length c1] w fun e w'=>e=.returned (.bool r)∧Drawn0 w w':=by
 have HR0:=qA hr0;have HC0:=qA hc0;clear hr0 hc0;have HR1:=qA hr1;have HC1:=qA hc1;clear hr1 hc1;have H:(if (l0.length:Int)=(l1.length:Int) then (spec_l1Same.l0 k l0 l1 0) else (some false))=some r:=h;clear h;by_cases c3:(l0.length:Int)=(l1.length:Int)
 ·rw [if_pos c3] at H;have c3b0:((l0.length:Int)==(l1.length:Int))=true:=beq_iff_eq.mpr c3;have c3b1:((l0.length:Int) != (l1.length:Int))=false:=bne_eq_false_iff_eq.mpr c3
  have c3b2:(l0.length==l1.length)=true:=by first|simpa using c3|(simp at c3 ⊢;omega)
  clear c3;have H':=qA H;clear H;go_enter Tryz.func84,Tryz.ntmps84
  go_wp2
  repeat (go_quiet (fail);try go_wp2)
  go_loopg [5] k (fun kq v5 w'=>∃ (x5_1:Int),v5=.int .i64 x5_1∧Aside0 (spec_l1Same.l0 kq l0 l1 x5_1=some r)∧Aside0 (kq≤k)∧Drawn0 w w')
  case atStart=>exact ⟨(0),qy76,H',⟨Nat.le_refl _⟩,qy71⟩
  case round=>
   clear H'
   try clear c1
   try clear p2
   try clear c3
   try clear c3b0
   try clear c3b1
   try clear c3b2
   obtain ⟨x5_1,rfl,HA,HK1,⟨m1,rfl⟩⟩:=hrel
   cases gk with
   |zero=>exact absurd HA.out (by simp [spec_l1Same.l0])
   |succ k1=>
    have H:=HA.out;clear HA;simp only [spec_l1Same.l0] at H;by_cases c4:x5_1 < (l0.length:Int)
    ·rw [if_pos c4] at H;have c4b0:decide (x5_1 < (l0.length:Int))=true:=decide_eq_true c4;clear c4;by_cases c5:0≤x5_1
     ·rw [if_pos c5] at H;have c5b0:decide (0≤x5_1)=true:=decide_eq_true c5;clear c5;by_cases c6:x5_1 < (l1.length:Int)
      ·rw [if_pos c6] at H;have c6b0:decide (x5_1 < (l1.length:Int))=true:=decide_eq_true c6;clear c6;by_cases c7:(rd l0 x5_1)=(rd l1 x5_1)
       ·rw [if_pos c7] at H;have c7b0:((rd l0 x5_1)==(rd l1 x5_1))=true:=beq_iff_eq.mpr c7;have c7b1:((rd l0 x5_1) != (rd l1 x5_1))=false:=bne_eq_false_iff_eq.mpr c7;clear c7;have H':=qA H;clear H;have p536:0≤(x5_1:Int):=of_decide_eq_true qy73;have q536:x5_1 < (l0.length:Int):=of_decide_eq_true qy73;obtain ⟨ad536,e536,hx536_0⟩:=Kd.at_int HR0.out x5_1 p536 q536;cases e536;replace p536:=eq_true p536;replace q536:=eq_true q536;have p537:0≤(x5_1:Int):=of_decide_eq_true qy73;have q537:x5_1 < (l1.length:Int):=of_decide_eq_true qy73;obtain ⟨ad537,e537,hx537_0⟩:=Kd.at_int HR1.out x5_1 p537 q537;cases e537;replace p537:=eq_true p537;replace q537:=eq_true q537
        go_wp2
        repeat (go_quiet (fail);try go_wp2)
        go_roundg k1
        case measure=>have:=HK1.out;omega
        case rel=>exact ⟨(wrap64 (x5_1+1)),qy76,H',⟨qy81⟩,qy71⟩
       ·rw [if_neg c7] at H;have c7b0:((rd l0 x5_1)==(rd l1 x5_1))=false:=beq_eq_false_iff_ne.mpr c7;have c7b1:((rd l0 x5_1) != (rd l1 x5_1))=true:=bne_iff_ne.mpr c7;obtain rfl:=Option.some.inj H;have p536:0≤(x5_1:Int):=of_decide_eq_true qy73;have q536:x5_1 < (l0.length:Int):=of_decide_eq_true qy73;obtain ⟨ad536,e536,hx536_0⟩:=Kd.at_int HR0.out x5_1 p536 q536;cases e536;replace p536:=eq_true p536;replace q536:=eq_true q536;have p537:0≤(x5_1:Int):=of_decide_eq_true qy73;have q537:x5_1 < (l1.length:Int):=of_decide_eq_true qy73;obtain ⟨ad537,e537,hx537_0⟩:=Kd.at_int HR1.out x5_1 p537 q537;cases e537;replace p537:=eq_true p537;replace q537:=eq_true q537
        go_wp2
        repeat (go_quiet (fail);try go_wp2)
        go_ret;exact ⟨qy76,qy71⟩
      ·rw [if_neg c6] at H;exact absurd H (by simp)
     ·rw [if_neg c5] at H;exact absurd H (by simp)
    ·rw [if_neg c4] at H;have c4b0:decide (x5_1 < (l0.length:Int))=false:=decide_eq_false c4;clear c4;obtain rfl:=Option.some.inj H
     go_wp2
     repeat (go_quiet (fail);try go_wp2)
     go_ret;exact ⟨qy76,qy71⟩
 ·rw [if_neg c3] at H;have c3b0:((l0.length:Int)==(l1.length:Int))=false:=beq_eq_false_iff_ne.mpr c3;have c3b1:((l0.length:Int) != (l1.length:Int))=true:=bne_iff_ne.mpr c3
  have c3b2:(l0.length==l1.length)=false:=by first|simpa using c3|(simp at c3 ⊢;omega)
  obtain rfl:=Option.some.inj H;go_enter Tryz.func84,Tryz.ntmps84
  go_wp2
  repeat (go_quiet (fail);try go_wp2)
  go_ret;exact ⟨qy76,qy71⟩

/-! ### spec_l3Shape: function 174 -/
mutual
def spec_l3Shape.l0:Nat→List Int→List Int→Int→Option (List Int)
 |0,_,_,_=>none
 |k+1,x0,x3,x4=>if x4 < (x0.length:Int) then (spec_l3Shape.l1 k x0 x3 x4 1 0) else (some x3)
def spec_l3Shape.l1:Nat→List Int→List Int→Int→Int→Int→Option (List Int)
 |0,_,_,_,_,_=>none
 |k+1,x0,x3,x4,x5,x6=>if x6 < (x0.length:Int) then (if 0≤x6 then (if 0≤x4 then (if x4 < (x0.length:Int) then (if (rd x0 x6) < (rd x0 x4) then (spec_l3Shape.l1 k x0 x3 x4 (wrap64 (x5+1)) (wrap64 (x6+1))) else (spec_l3Shape.l1 k x0 x3 x4 x5 (wrap64 (x6+1)))) else (none)) else (none)) else (none)) else (if x3.length < 17592186044416 then (spec_l3Shape.l0 k x0 (x3++[x5]) (wrap64 (x4+1))) else (none))
end
def spec_l3Shape.f (k:Nat) (l0:List Int):Option (List Int):=spec_l3Shape.l0 k l0 (([]:List Int)) 0
set_option maxHeartbeats 8000000 in
set_option maxRecDepth 100000 in
theorem spec_l3Shape.calls (k:Nat) (A0:Option Addr) (c0:Nat) (l0:List Int) (r:List Int) (w:World) (hr0:Kd.C (Kd.int .i64) w A0 l0.length l0) (hc0:l0.length≤c0) (h:spec_l3Shape.f k l0=some r):
  Calls Tryz.prog 174 #[.slice A0 l0.length c0] w fun e w'=>∃ v0_:Value,e=.returned (v0_)∧Kd.R (Kd.int .i64) 3 w' w.heap.size (fun _=>True) v0_ r∧Below w.heap.size w w':=by
 have HR0:=qA hr0;have HC0:=qA hc0;clear hr0 hc0;have HB:=qA (Below.refl w.heap.size w);have H:(spec_l3Shape.l0 k l0 (([]:List Int)) 0)=some r:=h;clear h
 obtain ⟨y538,hy538⟩:∃ y_:List Int,y_=(([]:List Int)):=⟨_,rfl⟩
 replace H:(spec_l3Shape.l0 k l0 y538 0)=some r:=by first|(rw [hy538];with_reducible exact H)|(have H2_:=(Option.bind_some _ _).symm.trans H;rw [hy538];with_reducible exact H2_)|(have H2_:=(Option.bind_some _ _).symm.trans H;with_reducible exact H2_)|with_reducible exact H|(rw [hy538];exact H)|exact H
 have Ny538:=qA hy538;clear hy538;have H':=qA H;clear H;go_enter Tryz.func174,Tryz.ntmps174
 go_wp2_with (first|((with_reducible refine gate_dst (N:=7) rfl ?_);refine Kd.R_lit (Kd.int .i64) _ 3 ?hg (N:=7) ?hd (xs:=([]:List Int)) (inner:=[]) (ok:=fun _=>True) (okp:=fun _=>True) ?hr ?hp (fun _ hk=>hk) trivial (Below.refl _ _) (Nat.le_refl _) (by simp) ?_;(case hd=>rfl);(case hg=>rfl);(case hr=>first|(go_simp;done)|(go_simp;rfl));(case hp=>exact (Reps.none _ _));intro v539 w2 ho3 hb hg_ hnew_;clear hg_ hnew_;(first|rw [← Ny538.out] at ho3|(simp only [Int.reduceToNat] at ho3;rw [← Ny538.out] at ho3));have n0_:=qA (Kd.R_lower ho3 (below_size qy33));have n1_:=qA (below_step qy33 hb);clear HB;have HO540:=n0_;have HB:=n1_;clear n0_ n1_;clear hb ho3))
 repeat (go_quiet (first|((with_reducible refine gate_dst (N:=7) rfl ?_);refine Kd.R_lit (Kd.int .i64) _ 3 ?hg (N:=7) ?hd (xs:=([]:List Int)) (inner:=[]) (ok:=fun _=>True) (okp:=fun _=>True) ?hr ?hp (fun _ hk=>hk) trivial (Below.refl _ _) (Nat.le_refl _) (by simp) ?_;(case hd=>rfl);(case hg=>rfl);(case hr=>first|(go_simp;done)|(go_simp;rfl));(case hp=>exact (Reps.none _ _));intro v539 w2 ho3 hb hg_ hnew_;clear hg_ hnew_;(first|rw [← Ny538.out] at ho3|(simp only [Int.reduceToNat] at ho3;rw [← Ny538.out] at ho3));have n0_:=qA (Kd.R_lower ho3 (below_size qy33));have n1_:=qA (below_step qy33 hb);clear HB;have HO540:=n0_;have HB:=n1_;clear n0_ n1_;clear hb ho3));try go_wp2_with (first|((with_reducible refine gate_dst (N:=7) rfl ?_);refine Kd.R_lit (Kd.int .i64) _ 3 ?hg (N:=7) ?hd (xs:=([]:List Int)) (inner:=[]) (ok:=fun _=>True) (okp:=fun _=>True) ?hr ?hp (fun _ hk=>hk) trivial (Below.refl _ _) (Nat.le_refl _) (by simp) ?_;(case hd=>rfl);(case hg=>rfl);(case hr=>first|(go_simp;done)|(go_simp;rfl));(case hp=>exact (Reps.none _ _));intro v539 w2 ho3 hb hg_ hnew_;clear hg_ hnew_;(first|rw [← Ny538.out] at ho3|(simp only [Int.reduceToNat] at ho3;rw [← Ny538.out] at ho3));have n0_:=qA (Kd.R_lower ho3 (below_size qy33));have n1_:=qA (below_step qy33 hb);clear HB;have HO540:=n0_;have HB:=n1_;clear n0_ n1_;clear hb ho3)))
 go_loopg [3,4] k (fun kq v3 v4 w'=>∃ (x3_1:List Int) (x4_1:Int),v4=.int .i64 x4_1∧Aside0 (spec_l3Shape.l0 kq l0 x3_1 x4_1=some r)∧Aside0 (kq≤k)∧Aside0 (Kd.R (Kd.int .i64) 3 w' w.heap.size (fun _=>True) v3 x3_1)∧Aside0 (Below w.heap.size w w'))
 case atStart=>exact ⟨(y538),(0),qy76,H',⟨Nat.le_refl _⟩,⟨(by (with_reducible repeat (first|apply Kd.R_alloc|apply Kd.R_drewN|apply Kd.R_drew));exact HO540.out)⟩,⟨qy33⟩⟩
 case round=>
  clear H'
  try clear c1
  try clear p2
  obtain ⟨x3_1,x4_1,rfl,HA,HK1,HO_3,HB⟩:=hrel
  cases gk with
  |zero=>exact absurd HA.out (by simp [spec_l3Shape.l0])
  |succ k1=>
   have H:=HA.out;clear HA;simp only [spec_l3Shape.l0] at H;by_cases c4:x4_1 < (l0.length:Int)
   ·rw [if_pos c4] at H;have c4b0:decide (x4_1 < (l0.length:Int))=true:=decide_eq_true c4;clear c4;have H':=qA H;clear H
    go_wp2
    repeat (go_quiet (fail);try go_wp2)
    go_loopg [5,6] k1 (fun kq v5 v6 w'=>∃ (x5_2:Int) (x6_2:Int),v5=.int .i64 x5_2∧v6=.int .i64 x6_2∧Aside0 (spec_l3Shape.l1 kq l0 x3_1 x4_1 x5_2 x6_2=some r)∧Aside0 (kq≤k1)∧Aside0 (Kd.R (Kd.int .i64) 3 w' w.heap.size (fun _=>True) u3 x3_1)∧Aside0 (Below w.heap.size w w'))
    case atStart=>exact ⟨(1),(0),qy76,qy76,H',⟨Nat.le_refl _⟩,⟨qy63⟩,⟨qy33⟩⟩
    case round=>
     clear H'
     try clear c1
     try clear p2
     try clear c4
     try clear c4b0
     try clear p2
     obtain ⟨x5_2,x6_2,rfl,rfl,HA,HK2,HO_3,HB⟩:=hrel
     cases gk with
     |zero=>exact absurd HA.out (by simp [spec_l3Shape.l1])
     |succ k2=>
      have H:=HA.out;clear HA;simp only [spec_l3Shape.l1] at H;by_cases c5:x6_2 < (l0.length:Int)
      ·rw [if_pos c5] at H;have c5b0:decide (x6_2 < (l0.length:Int))=true:=decide_eq_true c5;clear c5;by_cases c6:0≤x6_2
       ·rw [if_pos c6] at H;have c6b0:decide (0≤x6_2)=true:=decide_eq_true c6;clear c6;by_cases c7:0≤x4_1
        ·rw [if_pos c7] at H;have c7b0:decide (0≤x4_1)=true:=decide_eq_true c7;clear c7;by_cases c8:x4_1 < (l0.length:Int)
         ·rw [if_pos c8] at H;have c8b0:decide (x4_1 < (l0.length:Int))=true:=decide_eq_true c8;clear c8;by_cases c9:(rd l0 x6_2) < (rd l0 x4_1)
          ·rw [if_pos c9] at H;have c9b0:decide ((rd l0 x6_2) < (rd l0 x4_1))=true:=decide_eq_true c9;clear c9;have H':=qA H;clear H;have p541:0≤(x6_2:Int):=of_decide_eq_true qy73;have q541:x6_2 < (l0.length:Int):=of_decide_eq_true qy73;obtain ⟨ad541,e541,hx541_0⟩:=Kd.at_int HR0.out x6_2 p541 q541;cases e541;replace hx541_0:=(HB.out.cell (World.block_lt_of_cell? w _ hx541_0)).trans hx541_0;replace p541:=eq_true p541;replace q541:=eq_true q541;have p542:0≤(x4_1:Int):=of_decide_eq_true qy73;have q542:x4_1 < (l0.length:Int):=of_decide_eq_true qy73;obtain ⟨ad542,e542,hx542_0⟩:=Kd.at_int HR0.out x4_1 p542 q542
           obtain rfl:ad541=ad542:=(by injection e542)
           replace hx542_0:=(HB.out.cell (World.block_lt_of_cell? w _ hx542_0)).trans hx542_0;replace p542:=eq_true p542;replace q542:=eq_true q542
           go_wp2
           repeat (go_quiet (fail);try go_wp2)
           go_roundg k2
           case measure=>have:=HK1.out;have:=HK2.out;omega
           case rel=>exact ⟨(wrap64 (x5_2+1)),(wrap64 (x6_2+1)),qy76,qy76,H',⟨qy78⟩,⟨qy63⟩,⟨qy33⟩⟩
          ·rw [if_neg c9] at H;have c9b0:decide ((rd l0 x6_2) < (rd l0 x4_1))=false:=decide_eq_false c9;clear c9;have H':=qA H;clear H;have p541:0≤(x6_2:Int):=of_decide_eq_true qy73;have q541:x6_2 < (l0.length:Int):=of_decide_eq_true qy73;obtain ⟨ad541,e541,hx541_0⟩:=Kd.at_int HR0.out x6_2 p541 q541;cases e541;replace hx541_0:=(HB.out.cell (World.block_lt_of_cell? w _ hx541_0)).trans hx541_0;replace p541:=eq_true p541;replace q541:=eq_true q541;have p542:0≤(x4_1:Int):=of_decide_eq_true qy73;have q542:x4_1 < (l0.length:Int):=of_decide_eq_true qy73;obtain ⟨ad542,e542,hx542_0⟩:=Kd.at_int HR0.out x4_1 p542 q542
           obtain rfl:ad541=ad542:=(by injection e542)
           replace hx542_0:=(HB.out.cell (World.block_lt_of_cell? w _ hx542_0)).trans hx542_0;replace p542:=eq_true p542;replace q542:=eq_true q542
           go_wp2
           repeat (go_quiet (fail);try go_wp2)
           go_roundg k2
           case measure=>have:=HK1.out;have:=HK2.out;omega
           case rel=>exact ⟨(x5_2),(wrap64 (x6_2+1)),qy76,qy76,H',⟨qy78⟩,⟨qy63⟩,⟨qy33⟩⟩
         ·rw [if_neg c8] at H;exact absurd H (by simp)
        ·rw [if_neg c7] at H;exact absurd H (by simp)
       ·rw [if_neg c6] at H;exact absurd H (by simp)
      ·rw [if_neg c5] at H;have c5b0:decide (x6_2 < (l0.length:Int))=false:=decide_eq_false c5;clear c5;by_cases c10:x3_1.length < 17592186044416
       ·rw [if_pos c10] at H;have LMc10:=qA c10;clear c10
        obtain ⟨y543,hy543⟩:∃ y_:List Int,y_=(x3_1++[x5_2]):=⟨_,rfl⟩
        replace H:(spec_l3Shape.l0 k2 l0 y543 (wrap64 (x4_1+1)))=some r:=by first|(rw [hy543];with_reducible exact H)|(have H2_:=(Option.bind_some _ _).symm.trans H;rw [hy543];with_reducible exact H2_)|(have H2_:=(Option.bind_some _ _).symm.trans H;with_reducible exact H2_)|with_reducible exact H|(rw [hy543];exact H)|exact H
        have Ny543:=qA hy543;clear hy543;have H':=qA H;clear H
        go_wp2_with (first|((with_reducible refine gate_builtin (b:=.append) (xs:= #[.tmp 31,.tmp 33]) rfl ?_);at_builtin;refine Kd.R_append (Kd.int .i64) (w0:=w) w.heap.size rfl (.tmp 31) (.tmp 33) 36 3 (.int .i64 0) 8 rfl Tryz.underlying36 info3 rfl (by decide) (by omega) u3 x3_1 x5_2 [.int .i64 x5_2] (fun _=>True) (fun _=>False) rfl rfl ?aP (fun _ hk=>hk.elim) ?aF ?aO ?aB ?aS ?aL ?_;(case aP=>exact rfl);(case aB=>exact qy33);(case aF=>exact (fun _ _=>trivial));(case aO=>exact qy63);(case aS=>exact (below_size qy33));(case aL=>have:=LMc10.out;omega);intro v544 w11 ho hb hg hat;rw [← Ny543.out] at ho;have n0_:=qA (hb);have n1_:=qA (ho);clear HB;clear HO_3;have HB:=n0_;have HO545:=n1_;clear n0_ n1_;clear ho hb hg hat))
        repeat (go_quiet (first|((with_reducible refine gate_builtin (b:=.append) (xs:= #[.tmp 31,.tmp 33]) rfl ?_);at_builtin;refine Kd.R_append (Kd.int .i64) (w0:=w) w.heap.size rfl (.tmp 31) (.tmp 33) 36 3 (.int .i64 0) 8 rfl Tryz.underlying36 info3 rfl (by decide) (by omega) u3 x3_1 x5_2 [.int .i64 x5_2] (fun _=>True) (fun _=>False) rfl rfl ?aP (fun _ hk=>hk.elim) ?aF ?aO ?aB ?aS ?aL ?_;(case aP=>exact rfl);(case aB=>exact qy33);(case aF=>exact (fun _ _=>trivial));(case aO=>exact qy63);(case aS=>exact (below_size qy33));(case aL=>have:=LMc10.out;omega);intro v544 w11 ho hb hg hat;rw [← Ny543.out] at ho;have n0_:=qA (hb);have n1_:=qA (ho);clear HB;clear HO_3;have HB:=n0_;have HO545:=n1_;clear n0_ n1_;clear ho hb hg hat));try go_wp2_with (first|((with_reducible refine gate_builtin (b:=.append) (xs:= #[.tmp 31,.tmp 33]) rfl ?_);at_builtin;refine Kd.R_append (Kd.int .i64) (w0:=w) w.heap.size rfl (.tmp 31) (.tmp 33) 36 3 (.int .i64 0) 8 rfl Tryz.underlying36 info3 rfl (by decide) (by omega) u3 x3_1 x5_2 [.int .i64 x5_2] (fun _=>True) (fun _=>False) rfl rfl ?aP (fun _ hk=>hk.elim) ?aF ?aO ?aB ?aS ?aL ?_;(case aP=>exact rfl);(case aB=>exact qy33);(case aF=>exact (fun _ _=>trivial));(case aO=>exact qy63);(case aS=>exact (below_size qy33));(case aL=>have:=LMc10.out;omega);intro v544 w11 ho hb hg hat;rw [← Ny543.out] at ho;have n0_:=qA (hb);have n1_:=qA (ho);clear HB;clear HO_3;have HB:=n0_;have HO545:=n1_;clear n0_ n1_;clear ho hb hg hat)))
        go_roundg k2
        case measure=>have:=HK1.out;have:=HK2.out;omega
        case rel=>exact ⟨(y543),(wrap64 (x4_1+1)),qy76,H',⟨qy78⟩,⟨(by (with_reducible repeat (first|apply Kd.R_alloc|apply Kd.R_drewN|apply Kd.R_drew));exact HO545.out)⟩,⟨qy33⟩⟩
       ·rw [if_neg c10] at H;exact absurd H (by simp)
   ·rw [if_neg c4] at H;have c4b0:decide (x4_1 < (l0.length:Int))=false:=decide_eq_false c4;clear c4;obtain rfl:=Option.some.inj H
    go_wp2
    repeat (go_quiet (fail);try go_wp2)
    go_ret;exact ⟨_,qy68,qy63,qy33⟩

end Go.Proofs.YtaoecbpfocillaaGreat.Xdz
