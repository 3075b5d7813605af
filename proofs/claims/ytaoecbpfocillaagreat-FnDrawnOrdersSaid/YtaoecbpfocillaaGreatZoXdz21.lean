-- Written by this session's own program (xprint.py) over the kit's print.py: functions, contracts and rows of the laws of one seat.
import Derived.Test.YtaoecbpfocillaaGreatZoXdz0
import Derived.Test.YtaoecbpfocillaaGreatZoXdz9
import Derived.Test.YtaoecbpfocillaaGreatZoXdz10
import Derived.Test.YtaoecbpfocillaaGreatZoXdz19
import Derived.Test.YtaoecbpfocillaaGreatZoXdz20
namespace Go.Proofs.YtaoecbpfocillaaGreat.Xdz
open Go.RowKit Go.Proofs.YtaoecbpfocillaaGreatW.PrintWords Go.Proofs.YtaoecbpfocillaaGreatW.PrintLast Go.Proofs.YtaoecbpfocillaaGreatW.PrintMore
attribute [local go_sem] max2_int min2_int max_two min_two max_three min_three max_four min_four -- for this text's walks alone
set_option linter.unusedVariables false
set_option linter.unusedSimpArgs false

/-! ### spec_l3In: function 148 -/
def spec_l3In.f (k:Nat) (l0:List Int) (l1:List Int):Option (Bool):=(spec_l3Goes.f k l0 l1 (([]:List Int)) 0).bind fun t568=>(some t568)
set_option maxHeartbeats 8000000 in
set_option maxRecDepth 100000 in
theorem spec_l3In.calls (k:Nat) (A0:Option Addr) (c0:Nat) (l0:List Int) (A1:Option Addr) (c1:Nat) (l1:List Int) (r:Bool) (w:World) (hr0:Kd.C (Kd.int .i64) w A0 l0.length l0) (hc0:l0.length≤c0) (hr1:Kd.C (Kd.int .i64) w A1 l1.length l1) (hc1:l1.length≤c1) (h:spec_l3In.f k l0 l1=some r):
  Calls Tryz.prog 148 #[.slice A0 l0.length c0,.slice A1 l1.length c1] w fun e w'=>e=.returned (.bool r)∧Below w.heap.size w w':=by
 have HR0:=qA hr0;have HC0:=qA hc0;clear hr0 hc0;have HR1:=qA hr1;have HC1:=qA hc1;clear hr1 hc1;have HB:=qA (Below.refl w.heap.size w);have H:((spec_l3Goes.f k l0 l1 (([]:List Int)) 0).bind fun t568=>(some t568))=some r:=h;clear h
 obtain ⟨y565,hy565⟩:∃ y_:List Int,y_=(([]:List Int)):=⟨_,rfl⟩
 replace H:((spec_l3Goes.f k l0 l1 y565 0).bind fun t568=>(some t568))=some r:=by first|(rw [hy565];with_reducible exact H)|(have H2_:=(Option.bind_some _ _).symm.trans H;rw [hy565];with_reducible exact H2_)|(have H2_:=(Option.bind_some _ _).symm.trans H;with_reducible exact H2_)|with_reducible exact H|(rw [hy565];exact H)|exact H
 have Ny565:=qA hy565;clear hy565;replace H:=Option.bind_eq_some_iff.mp H;obtain ⟨t568,A30,H⟩:=H;replace H:(some t568)=some r:=H;have A3:=qA A30;clear A30;obtain rfl:=Option.some.inj H;go_enter Tryz.func148,Tryz.ntmps148
 go_wp2_with (first|((with_reducible refine gate_dst (N:=7) rfl ?_);refine Kd.R_lit (Kd.int .i64) _ 3 ?hg (N:=7) ?hd (xs:=([]:List Int)) (inner:=[]) (ok:=fun _=>True) (okp:=fun _=>True) ?hr ?hp (fun _ hk=>hk) trivial (Below.refl _ _) (Nat.le_refl _) (by simp) ?_;(case hd=>rfl);(case hg=>rfl);(case hr=>first|(go_simp;done)|(go_simp;rfl));(case hp=>exact (Reps.none _ _));intro v566 w4 ho5 hb hg_ hnew_;clear hg_ hnew_;(first|rw [← Ny565.out] at ho5|(simp only [Int.reduceToNat] at ho5;rw [← Ny565.out] at ho5));have n0_:=qA (Kd.R_lower ho5 (below_size qy33));have n1_:=qA (below_step qy33 hb);clear HB;have HO567:=n0_;have HB:=n1_;clear n0_ n1_;clear hb ho5;obtain ⟨Ao6,co6,eo6⟩:=Kd.R_slice HO567.out;subst eo6)|((with_reducible refine gate_callee (f:=165) rfl ?_);refine goesL_ (some 8) rfl rfl Tryz.func165 (by kernel_rfl) rfl #[.slice A0 l0.length c0,.slice A1 l1.length c1,.slice Ao6 y565.length co6,.int .i64 0] rfl qy29 ?_;(with_reducible refine (spec_l3Goes.calls k _ _ l0 _ _ l1 _ _ y565 0 t568 _ ?side1 ?side2 ?side3 ?side4 ?side5 ?side6 A3.out).mono ?_);(case side1=>repeat (first|exact (Kd.C_below HR0.out HB.out)|(with_reducible refine Kd.C_alloc ?_ _)|(with_reducible refine Kd.C_drewN ?_ _)|(with_reducible refine Kd.C_drew ?_)));(case side2=>exact HC0.out);(case side3=>repeat (first|exact (Kd.C_below HR1.out HB.out)|(with_reducible refine Kd.C_alloc ?_ _)|(with_reducible refine Kd.C_drewN ?_ _)|(with_reducible refine Kd.C_drew ?_)));(case side4=>exact HC1.out);(case side5=>repeat (first|exact (Kd.R_reads' HO567.out).2.2|(with_reducible refine Kd.C_alloc ?_ _)|(with_reducible refine Kd.C_drewN ?_ _)|(with_reducible refine Kd.C_drew ?_)));(case side6=>exact (Kd.R_reads' HO567.out).2.1);rintro e w7 ⟨rfl,hb⟩;refine ⟨_,rfl,?_⟩;have n0_:=qA (Kd.R_below (by (with_reducible repeat (first|apply Kd.R_alloc|apply Kd.R_drewN|apply Kd.R_drew));exact HO567.out) hb);have n1_:=qA (below_step qy33 hb);clear HO567;clear HB;have HO567:=n0_;have HB:=n1_;clear n0_ n1_;(try clear hb);(try clear hb2);(try clear hk);(try clear hi)))
 go_ret;exact ⟨qy68,qy33⟩

/-! ### spec_l3Avoids: function 125 -/
def spec_l3Avoids.l0:Nat→List Int→List (List Int)→Int→Option (Bool)
 |0,_,_,_=>none
 |k+1,x0,x1,x5=>if x5 < (x1.length:Int) then (if 0≤x5 then ((spec_l3In.f k x0 (rd_L2 x1 x5)).bind fun t570=>(if t570=true then (some false) else (spec_l3Avoids.l0 k x0 x1 (wrap64 (x5+1))))) else (none)) else (some true)
def spec_l3Avoids.f (k:Nat) (l0:List Int) (l1:List (List Int)):Option (Bool):=spec_l3Avoids.l0 k l0 l1 0
set_option maxHeartbeats 8000000 in
set_option maxRecDepth 100000 in
theorem spec_l3Avoids.calls (k:Nat) (A0:Option Addr) (c0:Nat) (l0:List Int) (A1:Option Addr) (c1:Nat) (l1:List (List Int)) (r:Bool) (w:World) (hr0:Kd.C (Kd.int .i64) w A0 l0.length l0) (hc0:l0.length≤c0) (hr1:Kd.C (Kd.slice 3 (Kd.int .i64)) w A1 l1.length l1) (hc1:l1.length≤c1) (h:spec_l3Avoids.f k l0 l1=some r):
  Calls Tryz.prog 125 #[.slice A0 l0.length c0,.slice A1 l1.length c1] w fun e w'=>e=.returned (.bool r)∧Below w.heap.size w w':=by
 have HR0:=qA hr0;have HC0:=qA hc0;clear hr0 hc0;have HR1:=qA hr1;have HC1:=qA hc1;clear hr1 hc1;have HB:=qA (Below.refl w.heap.size w);have H:(spec_l3Avoids.l0 k l0 l1 0)=some r:=h;clear h;have H':=qA H;clear H;go_enter Tryz.func125,Tryz.ntmps125
 go_wp2
 go_loopg [5] k (fun kq v5 w'=>∃ (x5_1:Int),v5=.int .i64 x5_1∧Aside0 (spec_l3Avoids.l0 kq l0 l1 x5_1=some r)∧Aside0 (kq≤k)∧Aside0 (Below w.heap.size w w'))
 case atStart=>exact ⟨(0),qy76,H',⟨Nat.le_refl _⟩,⟨qy33⟩⟩
 case round=>
  clear H'
  try clear c1
  try clear p2
  obtain ⟨x5_1,rfl,HA,HK1,HB⟩:=hrel
  cases gk with
  |zero=>exact absurd HA.out (by simp [spec_l3Avoids.l0])
  |succ k1=>
   have H:=HA.out;clear HA;simp only [spec_l3Avoids.l0] at H;by_cases c3:x5_1 < (l1.length:Int)
   ·rw [if_pos c3] at H;have c3b0:decide (x5_1 < (l1.length:Int))=true:=decide_eq_true c3;clear c3;by_cases c4:0≤x5_1
    ·rw [if_pos c4] at H;have c4b0:decide (0≤x5_1)=true:=decide_eq_true c4;clear c4;replace H:=Option.bind_eq_some_iff.mp H;obtain ⟨t570,A50,H⟩:=H;replace H:(if t570=true then (some false) else (spec_l3Avoids.l0 k1 l0 l1 (wrap64 (x5_1+1))))=some r:=H;have A5:=qA A50;clear A50;by_cases c6:t570=true
     ·subst c6;have H1:(some false)=some r:=by rw [if_pos rfl] at H;exact H
      clear H;have H:=H1;clear H1;obtain rfl:=Option.some.inj H;have p569:0≤(x5_1:Int):=of_decide_eq_true qy73;have q569:x5_1 < (l1.length:Int):=of_decide_eq_true qy73;obtain ⟨ad569,A569_0,c569_0,e569,hx569_0,hl569_0,hi569_0⟩:=at_L2 HR1.out x5_1 p569 q569;cases e569;replace hx569_0:=(HB.out.cell (World.block_lt_of_cell? w _ hx569_0)).trans hx569_0;have HR569_0:=qA hi569_0;have HC569_0:=qA hl569_0;clear hi569_0 hl569_0;replace p569:=eq_true p569;replace q569:=eq_true q569
      go_wp2_with (first|((with_reducible refine gate_callee (f:=148) rfl ?_);refine goesL_ (some 17) rfl rfl Tryz.func148 (by kernel_rfl) rfl #[.slice A0 l0.length c0,.slice A569_0 (rd_L2 l1 x5_1).length c569_0] rfl qy29 ?_;(with_reducible refine (spec_l3In.calls k1 _ _ l0 _ _ (rd_L2 l1 x5_1) true _ ?side1 ?side2 ?side3 ?side4 A5.out).mono ?_);(case side1=>repeat (first|exact (Kd.C_below HR0.out HB.out)|(with_reducible refine Kd.C_alloc ?_ _)|(with_reducible refine Kd.C_drewN ?_ _)|(with_reducible refine Kd.C_drew ?_)));(case side2=>exact HC0.out);(case side3=>repeat (first|exact (Kd.C_below HR569_0.out HB.out)|(with_reducible refine Kd.C_alloc ?_ _)|(with_reducible refine Kd.C_drewN ?_ _)|(with_reducible refine Kd.C_drew ?_)));(case side4=>exact HC569_0.out);rintro e w7 ⟨rfl,hb⟩;refine ⟨_,rfl,?_⟩;have n0_:=qA (below_step qy33 hb);clear HB;have HB:=n0_;clear n0_;(try clear hb);(try clear hb2);(try clear hk);(try clear hi)))
      go_ret;exact ⟨qy68,qy33⟩
     ·replace c6:=Bool.eq_false_iff.mpr c6;subst c6;have H1:(spec_l3Avoids.l0 k1 l0 l1 (wrap64 (x5_1+1)))=some r:=by rw [if_neg (show ¬ (false=true) by decide)] at H;exact H
      clear H;have H:=H1;clear H1;have H':=qA H;clear H;have p569:0≤(x5_1:Int):=of_decide_eq_true qy73;have q569:x5_1 < (l1.length:Int):=of_decide_eq_true qy73;obtain ⟨ad569,A569_0,c569_0,e569,hx569_0,hl569_0,hi569_0⟩:=at_L2 HR1.out x5_1 p569 q569;cases e569;replace hx569_0:=(HB.out.cell (World.block_lt_of_cell? w _ hx569_0)).trans hx569_0;have HR569_0:=qA hi569_0;have HC569_0:=qA hl569_0;clear hi569_0 hl569_0;replace p569:=eq_true p569;replace q569:=eq_true q569
      go_wp2_with (first|((with_reducible refine gate_callee (f:=148) rfl ?_);refine goesL_ (some 17) rfl rfl Tryz.func148 (by kernel_rfl) rfl #[.slice A0 l0.length c0,.slice A569_0 (rd_L2 l1 x5_1).length c569_0] rfl qy29 ?_;(with_reducible refine (spec_l3In.calls k1 _ _ l0 _ _ (rd_L2 l1 x5_1) false _ ?side1 ?side2 ?side3 ?side4 A5.out).mono ?_);(case side1=>repeat (first|exact (Kd.C_below HR0.out HB.out)|(with_reducible refine Kd.C_alloc ?_ _)|(with_reducible refine Kd.C_drewN ?_ _)|(with_reducible refine Kd.C_drew ?_)));(case side2=>exact HC0.out);(case side3=>repeat (first|exact (Kd.C_below HR569_0.out HB.out)|(with_reducible refine Kd.C_alloc ?_ _)|(with_reducible refine Kd.C_drewN ?_ _)|(with_reducible refine Kd.C_drew ?_)));(case side4=>exact HC569_0.out);rintro e w8 ⟨rfl,hb⟩;refine ⟨_,rfl,?_⟩;have n0_:=qA (below_step qy33 hb);clear HB;have HB:=n0_;clear n0_;(try clear hb);(try clear hb2);(try clear hk);(try clear hi)))
      go_roundg k1
      case measure=>have:=HK1.out;omega
      case rel=>exact ⟨(wrap64 (x5_1+1)),qy76,H',⟨qy81⟩,⟨qy33⟩⟩
    ·rw [if_neg c4] at H;exact absurd H (by simp)
   ·rw [if_neg c3] at H;have c3b0:decide (x5_1 < (l1.length:Int))=false:=decide_eq_false c3;clear c3;obtain rfl:=Option.some.inj H
    go_wp2
    go_ret;exact ⟨qy68,qy33⟩

/-! ### spec_l3Avoiding: function 74 -/
mutual
def spec_l3Avoiding.l0:Nat→Int→List (List Int)→List (List Int)→Int→Option ((List (List Int)))
 |0,_,_,_,_=>none
 |k+1,x0,x1,x5,x6=>if x6 < x0 then (spec_l3Avoiding.l1 k x0 x1 x5 x6 (([]:List (List Int))) 0) else (some x5)
def spec_l3Avoiding.l1:Nat→Int→List (List Int)→List (List Int)→Int→List (List Int)→Int→Option ((List (List Int)))
 |0,_,_,_,_,_,_=>none
 |k+1,x0,x1,x5,x6,x7,x8=>if x8 < (x5.length:Int) then (spec_l3Avoiding.l2 k x0 x1 x5 x6 x7 x8 1) else (spec_l3Avoiding.l0 k x0 x1 x7 (wrap64 (x6+1)))
def spec_l3Avoiding.l2:Nat→Int→List (List Int)→List (List Int)→Int→List (List Int)→Int→Int→Option ((List (List Int)))
 |0,_,_,_,_,_,_,_=>none
 |k+1,x0,x1,x5,x6,x7,x8,x9=>if x9≤(wrap64 (x6+1)) then (if 0≤x8 then (if x8 < (x5.length:Int) then ((spec_l3Insert.f k (rd_L2 x5 x8) x9).bind fun t581=>((spec_l3Avoids.f k t581 x1).bind fun t584=>(if t584=true then (if x7.length < 5864062014805 then (spec_l3Avoiding.l2 k x0 x1 x5 x6 (x7++[t581]) x8 (wrap64 (x9+1))) else (none)) else (spec_l3Avoiding.l2 k x0 x1 x5 x6 x7 x8 (wrap64 (x9+1)))))) else (none)) else (none)) else (spec_l3Avoiding.l1 k x0 x1 x5 x6 x7 (wrap64 (x8+1)))
end
def spec_l3Avoiding.f (k:Nat) (a0:Int) (l1:List (List Int)):Option ((List (List Int))):=spec_l3Avoiding.l0 k a0 l1 (([(([]:List Int))]:List (List Int))) 0
set_option maxHeartbeats 8000000 in
set_option maxRecDepth 100000 in
theorem spec_l3Avoiding.calls (k:Nat) (a0:Int) (A1:Option Addr) (c1:Nat) (l1:List (List Int)) (r:List (List Int)) (w:World) (hr1:Kd.C (Kd.slice 3 (Kd.int .i64)) w A1 l1.length l1) (hc1:l1.length≤c1) (h:spec_l3Avoiding.f k a0 l1=some r):
  Calls Tryz.prog 74 #[.int .i64 a0,.slice A1 l1.length c1] w fun e w'=>∃ v0_:Value,e=.returned (v0_)∧Kd.N (Kd.slice 3 (Kd.int .i64)) 36 w' w.heap.size (fun k_=>(w.heap.size≤k_)) v0_ r∧Below w.heap.size w w':=by
 have HR1:=qA hr1;have HC1:=qA hc1;clear hr1 hc1;have HB:=qA (Below.refl w.heap.size w);have H:(spec_l3Avoiding.l0 k a0 l1 (([(([]:List Int))]:List (List Int))) 0)=some r:=h;clear h
 obtain ⟨y571,hy571⟩:∃ y_:List Int,y_=(([]:List Int)):=⟨_,rfl⟩
 replace H:(spec_l3Avoiding.l0 k a0 l1 (([y571]:List (List Int))) 0)=some r:=by first|(rw [hy571];with_reducible exact H)|(have H2_:=(Option.bind_some _ _).symm.trans H;rw [hy571];with_reducible exact H2_)|(have H2_:=(Option.bind_some _ _).symm.trans H;with_reducible exact H2_)|with_reducible exact H|(rw [hy571];exact H)|exact H
 have Ny571:=qA hy571;clear hy571
 obtain ⟨y574,hy574⟩:∃ y_:List (List Int),y_=(([y571]:List (List Int))):=⟨_,rfl⟩
 replace H:(spec_l3Avoiding.l0 k a0 l1 y574 0)=some r:=by first|(rw [hy574];with_reducible exact H)|(have H2_:=(Option.bind_some _ _).symm.trans H;rw [hy574];with_reducible exact H2_)|(have H2_:=(Option.bind_some _ _).symm.trans H;with_reducible exact H2_)|with_reducible exact H|(rw [hy574];exact H)|exact H
 have Ny574:=qA hy574;clear hy574;have H':=qA H;clear H;go_enter Tryz.func74,Tryz.ntmps74
 go_wp2_with (first|((with_reducible refine gate_dst (N:=11) rfl ?_);refine Kd.R_lit (Kd.int .i64) _ 3 ?hg (N:=11) ?hd (xs:=([]:List Int)) (inner:=[]) (ok:=fun _=>True) (okp:=fun _=>True) ?hr ?hp (fun _ hk=>hk) trivial (Below.refl _ _) (Nat.le_refl _) (by simp) ?_;(case hd=>rfl);(case hg=>rfl);(case hr=>first|(go_simp;done)|(go_simp;rfl));(case hp=>exact (Reps.none _ _));intro v572 w3 ho4 hb hg_ hnew_;clear hg_ hnew_;(first|rw [← Ny571.out] at ho4|(simp only [Int.reduceToNat] at ho4;rw [← Ny571.out] at ho4));have n0_:=qA (Kd.R_lower (Kd.R_newM (M:=fun k_=>(w.heap.size≤k_)) ho4 (below_size qy33) (fun k_ h_=>h_)) (below_size qy33));have n1_:=qA (below_step qy33 hb);clear HB;have HO573:=n0_;have HB:=n1_;clear n0_ n1_;clear hb ho4;obtain ⟨Ao5,co5,eo5⟩:=Kd.R_slice HO573.out;subst eo5)|((with_reducible refine gate_dst (N:=12) rfl ?_);refine Kd.N_lit (Kd.slice 3 (Kd.int .i64)) _ 36 ?hg (N':=12) ?hd (xs:=([y571]:List (List Int))) (inner:=[.slice Ao5 y571.length co5]) (ok:=(fun k_=>(w.heap.size≤k_))) (okp:=(fun k_=>(w.heap.size≤k_))) ?hr ?hp (fun _ hk=>hk) ((show ∀ k_,w3.heap.size≤k_→(fun k_=>(w.heap.size≤k_)) k_ from fun k_ hk=>(Nat.le_trans (below_size qy33) hk)) _ (Nat.le_refl _)) (Below.refl _ _) (Nat.le_refl _) (by simp) ?_;(case hd=>rfl);(case hg=>rfl);(case hr=>first|(go_simp;done)|(go_simp;rfl));(case hp=>exact (Reps.one (show Kd.FK (Kd.slice 3 (Kd.int .i64)) _ _ y571 [.slice Ao5 y571.length co5] from (Kd.FK_slice_mk (Kd.R_reads' (Kd.R_mono (ok':=(fun k_=>(w.heap.size≤k_))) (HO573.out) (fun k_ hk=>hk.1))).2.1 (Kd.R_F (Kd.R_mono (ok':=(fun k_=>(w.heap.size≤k_))) (HO573.out) (fun k_ hk=>hk.1))))) (Reps.none _ _)));intro v575 w6 ho7 hb hg_ hnew_;clear hg_ hnew_;(first|rw [← Ny574.out] at ho7|(simp only [Int.reduceToNat] at ho7;rw [← Ny574.out] at ho7));have n0_:=qA (Kd.N_lower ho7 (below_size qy33));have n1_:=qA (below_step qy33 hb);clear HB;clear HO573;have HO576:=n0_;have HB:=n1_;clear n0_ n1_;clear hb ho7))
 go_loopg [5,6] k (fun kq v5 v6 w'=>∃ (x5_1:List (List Int)) (x6_1:Int),v6=.int .i64 x6_1∧Aside0 (spec_l3Avoiding.l0 kq a0 l1 x5_1 x6_1=some r)∧Aside0 (kq≤k)∧Aside0 (Kd.N (Kd.slice 3 (Kd.int .i64)) 36 w' w.heap.size (fun k_=>(w.heap.size≤k_)) v5 x5_1)∧Aside0 (Below w.heap.size w w'))
 case atStart=>exact ⟨(y574),(0),qy76,H',⟨Nat.le_refl _⟩,⟨(by (with_reducible repeat (first|apply Kd.N_alloc|apply Kd.N_drewN|apply Kd.N_drew));exact HO576.out)⟩,⟨qy33⟩⟩
 case round=>
  clear H'
  try clear c1
  try clear p2
  try clear c7
  obtain ⟨x5_1,x6_1,rfl,HA,HK1,HO_5,HB⟩:=hrel
  cases gk with
  |zero=>exact absurd HA.out (by simp [spec_l3Avoiding.l0])
  |succ k1=>
   have H:=HA.out;clear HA;simp only [spec_l3Avoiding.l0] at H;by_cases c8:x6_1 < a0
   ·rw [if_pos c8] at H;have c8b0:decide (x6_1 < a0)=true:=decide_eq_true c8;clear c8
    obtain ⟨y577,hy577⟩:∃ y_:List (List Int),y_=(([]:List (List Int))):=⟨_,rfl⟩
    replace H:(spec_l3Avoiding.l1 k1 a0 l1 x5_1 x6_1 y577 0)=some r:=by first|(rw [hy577];with_reducible exact H)|(have H2_:=(Option.bind_some _ _).symm.trans H;rw [hy577];with_reducible exact H2_)|(have H2_:=(Option.bind_some _ _).symm.trans H;with_reducible exact H2_)|with_reducible exact H|(rw [hy577];exact H)|exact H
    have Ny577:=qA hy577;clear hy577;have H':=qA H;clear H
    go_wp2_with (first|((with_reducible refine gate_dst (N:=18) rfl ?_);refine Kd.N_lit (Kd.slice 3 (Kd.int .i64)) _ 36 ?hg (N':=18) ?hd (xs:=([]:List (List Int))) (inner:=[]) (ok:=(fun k_=>(w.heap.size≤k_)∧some k_≠(u5:Value).ownBlock)) (okp:=(fun k_=>(w.heap.size≤k_)∧some k_≠(u5:Value).ownBlock)) ?hr ?hp (fun _ hk=>hk) ((show ∀ k_,wr.heap.size≤k_→(fun k_=>(w.heap.size≤k_)∧some k_≠(u5:Value).ownBlock) k_ from fun k_ hk=>⟨(Nat.le_trans (below_size qy33) hk),Kd.fresh' (Kd.N_lt qy65) k_ hk⟩) _ (Nat.le_refl _)) (Below.refl _ _) (Nat.le_refl _) (by simp) ?_;(case hd=>rfl);(case hg=>rfl);(case hr=>first|(go_simp;done)|(go_simp;rfl));(case hp=>exact (Reps.none _ _));intro v578 w9 ho10 hb hg_ hnew_;clear hg_ hnew_;(first|rw [← Ny577.out] at ho10|(simp only [Int.reduceToNat] at ho10;rw [← Ny577.out] at ho10));have n0_:=qA (Kd.N_elder' qy65 (Kd.N_base ho10) hb);have n1_:=qA (Kd.N_lower ho10 (below_size qy33));have n2_:=qA (below_step qy33 hb);clear HO_5;clear HB;have HO_5:=n0_;have HO579:=n1_;have HB:=n2_;clear n0_ n1_ n2_;clear hb ho10))
    go_loopg [7,8] k1 (fun kq v7 v8 w'=>∃ (x7_2:List (List Int)) (x8_2:Int),v8=.int .i64 x8_2∧Aside0 (spec_l3Avoiding.l1 kq a0 l1 x5_1 x6_1 x7_2 x8_2=some r)∧Aside0 (kq≤k1)∧Aside0 (Kd.N (Kd.slice 3 (Kd.int .i64)) 36 w' w.heap.size (fun k_=>(w.heap.size≤k_)∧some k_≠(v7:Value).ownBlock) u5 x5_1)∧Aside0 (Kd.N (Kd.slice 3 (Kd.int .i64)) 36 w' w.heap.size (fun k_=>(w.heap.size≤k_)∧some k_≠(u5:Value).ownBlock) v7 x7_2)∧Aside0 (Below w.heap.size w w'))
    case atStart=>exact ⟨(y577),(0),qy76,H',⟨Nat.le_refl _⟩,⟨qy65⟩,⟨(by (with_reducible repeat (first|apply Kd.N_alloc|apply Kd.N_drewN|apply Kd.N_drew));exact HO579.out)⟩,⟨qy33⟩⟩
    case round=>
     clear H'
     try clear c1
     try clear p2
     try clear c7
     try clear c8
     try clear c8b0
     try clear p2
     obtain ⟨x7_2,x8_2,rfl,HA,HK2,HO_5,HO_7,HB⟩:=hrel
     cases gk with
     |zero=>exact absurd HA.out (by simp [spec_l3Avoiding.l1])
     |succ k2=>
      have H:=HA.out;clear HA;simp only [spec_l3Avoiding.l1] at H;by_cases c11:x8_2 < (x5_1.length:Int)
      ·rw [if_pos c11] at H;have c11b0:decide (x8_2 < (x5_1.length:Int))=true:=decide_eq_true c11;clear c11;have H':=qA H;clear H;obtain ⟨Ao12,co12,eo12⟩:=Kd.N_slice HO_5.out;subst eo12
       go_wp2
       go_loopg [7,9] k2 (fun kq v7 v9 w'=>∃ (x7_3:List (List Int)) (x9_3:Int),v9=.int .i64 x9_3∧Aside0 (spec_l3Avoiding.l2 kq a0 l1 x5_1 x6_1 x7_3 x8_2 x9_3=some r)∧Aside0 (kq≤k2)∧Aside0 (Kd.N (Kd.slice 3 (Kd.int .i64)) 36 w' w.heap.size (fun k_=>(w.heap.size≤k_)∧some k_≠(v7:Value).ownBlock) (.slice Ao12 x5_1.length co12) x5_1)∧Aside0 (Kd.N (Kd.slice 3 (Kd.int .i64)) 36 w' w.heap.size (fun k_=>(w.heap.size≤k_)∧some k_≠((.slice Ao12 x5_1.length co12):Value).ownBlock) v7 x7_3)∧Aside0 (Below w.heap.size w w'))
       case atStart=>exact ⟨(x7_2),(1),qy76,H',⟨Nat.le_refl _⟩,⟨qy65⟩,⟨qy64⟩,⟨qy33⟩⟩
       case round=>
        clear H'
        try clear c1
        try clear p2
        try clear c7
        try clear c8
        try clear c8b0
        try clear c11
        try clear c11b0
        try clear p2
        obtain ⟨x7_3,x9_3,rfl,HA,HK3,HO_5,HO_7,HB⟩:=hrel
        cases gk with
        |zero=>exact absurd HA.out (by simp [spec_l3Avoiding.l2])
        |succ k3=>
         have H:=HA.out;clear HA;simp only [spec_l3Avoiding.l2] at H;by_cases c13:x9_3≤(wrap64 (x6_1+1))
         ·rw [if_pos c13] at H;have c13b0:decide (x9_3≤(wrap64 (x6_1+1)))=true:=decide_eq_true c13;clear c13;by_cases c14:0≤x8_2
          ·rw [if_pos c14] at H;have c14b0:decide (0≤x8_2)=true:=decide_eq_true c14;clear c14;by_cases c15:x8_2 < (x5_1.length:Int)
           ·rw [if_pos c15] at H;have c15b0:decide (x8_2 < (x5_1.length:Int))=true:=decide_eq_true c15;clear c15;replace H:=Option.bind_eq_some_iff.mp H;obtain ⟨t581,A160,H⟩:=H;replace H:((spec_l3Avoids.f k3 t581 l1).bind fun t584=>(if t584=true then (if x7_3.length < 5864062014805 then (spec_l3Avoiding.l2 k3 a0 l1 x5_1 x6_1 (x7_3++[t581]) x8_2 (wrap64 (x9_3+1))) else (none)) else (spec_l3Avoiding.l2 k3 a0 l1 x5_1 x6_1 x7_3 x8_2 (wrap64 (x9_3+1)))))=some r:=H;have A16:=qA A160;clear A160;replace H:=Option.bind_eq_some_iff.mp H;obtain ⟨t584,A170,H⟩:=H;replace H:(if t584=true then (if x7_3.length < 5864062014805 then (spec_l3Avoiding.l2 k3 a0 l1 x5_1 x6_1 (x7_3++[t581]) x8_2 (wrap64 (x9_3+1))) else (none)) else (spec_l3Avoiding.l2 k3 a0 l1 x5_1 x6_1 x7_3 x8_2 (wrap64 (x9_3+1))))=some r:=H;have A17:=qA A170;clear A170;by_cases c18:t584=true
            ·subst c18;have H1:(if x7_3.length < 5864062014805 then (spec_l3Avoiding.l2 k3 a0 l1 x5_1 x6_1 (x7_3++[t581]) x8_2 (wrap64 (x9_3+1))) else (none))=some r:=by rw [if_pos rfl] at H;exact H
             clear H;have H:=H1;clear H1;by_cases c19:x7_3.length < 5864062014805
             ·rw [if_pos c19] at H;have LMc19:=qA c19;clear c19
              obtain ⟨y585,hy585⟩:∃ y_:List (List Int),y_=(x7_3++[t581]):=⟨_,rfl⟩
              replace H:(spec_l3Avoiding.l2 k3 a0 l1 x5_1 x6_1 y585 x8_2 (wrap64 (x9_3+1)))=some r:=by first|(rw [hy585];with_reducible exact H)|(have H2_:=(Option.bind_some _ _).symm.trans H;rw [hy585];with_reducible exact H2_)|(have H2_:=(Option.bind_some _ _).symm.trans H;with_reducible exact H2_)|with_reducible exact H|(rw [hy585];exact H)|exact H
              have Ny585:=qA hy585;clear hy585;have H':=qA H;clear H;have p580:0≤(x8_2:Int):=of_decide_eq_true qy73;have q580:x8_2 < (x5_1.length:Int):=of_decide_eq_true qy73;obtain ⟨ad580,A580_0,c580_0,e580,hx580_0,hl580_0,hi580_0⟩:=at_L2 (Kd.N_reads' HO_5.out).2.2 x8_2 p580 q580;cases e580;obtain ⟨ce580,hce580,hMe580,hcc580⟩:=Kd.N_get HO_5.out [] x8_2 p580 (by first|exact q580|exact of_decide_eq_true qy73|(have e_:=(Kd.N_reads' HO_5.out).1;omega));obtain ⟨ua580_0,uc580_0,rfl,ul580_0,ge580_0⟩:=Kd.FK_slice_open hMe580;have hv580_0:=hcc580 0 _ rfl;rw [Nat.add_zero,show ((Kd.slice 3 (Kd.int .i64))).sz=1 from rfl,Nat.mul_one] at hv580_0;replace hv580_0:=Option.some.inj (hv580_0.symm.trans hx580_0);injection hv580_0 with hva_ hvn_ hvc_
              rw [hva_] at ge580_0;rw [hvc_] at ul580_0;have HL580_0:=qA (show Kd.V (Kd.int .i64) 3 _ w.heap.size _ _ (rd_L2 x5_1 x8_2) from Kd.V_mk ul580_0 ge580_0);clear hva_ hvn_ hvc_ ge580_0 ul580_0;clear hcc580 hce580;have HR580_0:=qA hi580_0;have HC580_0:=qA hl580_0;clear hi580_0 hl580_0;replace p580:=eq_true p580;replace q580:=eq_true q580
              go_wp2_with (first|((with_reducible refine gate_callee (f:=124) rfl ?_);refine goesL_ (some 36) rfl rfl Tryz.func124 (by kernel_rfl) rfl #[.slice A580_0 (rd_L2 x5_1 x8_2).length c580_0,.int .i64 x9_3] rfl qy29 ?_;(with_reducible refine (spec_l3Insert.calls k3 _ _ (rd_L2 x5_1 x8_2) x9_3 t581 _ ?side1 ?side2 A16.out).mono ?_);(case side1=>repeat (first|exact qy4|(with_reducible refine Kd.C_alloc ?_ _)|(with_reducible refine Kd.C_drewN ?_ _)|(with_reducible refine Kd.C_drew ?_)));(case side2=>exact HC580_0.out);rintro e w20 ⟨v582,rfl,ho0,hb⟩;refine ⟨_,rfl,?_⟩;have n0_:=qA (Kd.N_elder' qy65 (Kd.R_base ho0) hb);have n1_:=qA (Kd.N_elder' qy64 (Kd.R_base ho0) hb);have n2_:=qA (Kd.V_elder' qy44 (Kd.R_base ho0) hb);have n3_:=qA (Kd.R_lower (Kd.R_newM (M:=fun k_=>(w.heap.size≤k_)) ho0 (below_size qy33) (fun k_ h_=>h_)) (below_size qy33));have n4_:=qA (Kd.C_below qy4 hb);have n5_:=qA (below_step qy33 hb);clear HO_5;clear HO_7;clear HL580_0;clear HR580_0;clear HB;have HO_5:=n0_;have HO_7:=n1_;have HL580_0:=n2_;have HO583:=n3_;have HR580_0:=n4_;have HB:=n5_;clear n0_ n1_ n2_ n3_ n4_ n5_;(try clear hb);(try clear hb2);(try clear hk);(try clear hi);(try clear ho0);obtain ⟨Ao21,co21,eo21⟩:=Kd.R_slice HO583.out;subst eo21)|((with_reducible refine gate_callee (f:=125) rfl ?_);refine goesL_ (some 39) rfl rfl Tryz.func125 (by kernel_rfl) rfl #[.slice Ao21 t581.length co21,.slice A1 l1.length c1] rfl qy29 ?_;(with_reducible refine (spec_l3Avoids.calls k3 _ _ t581 _ _ l1 true _ ?side1 ?side2 ?side3 ?side4 A17.out).mono ?_);(case side1=>repeat (first|exact (Kd.R_reads' HO583.out).2.2|(with_reducible refine Kd.C_alloc ?_ _)|(with_reducible refine Kd.C_drewN ?_ _)|(with_reducible refine Kd.C_drew ?_)));(case side2=>exact (Kd.R_reads' HO583.out).2.1);(case side3=>repeat (first|exact (Kd.C_below HR1.out HB.out)|(with_reducible refine Kd.C_alloc ?_ _)|(with_reducible refine Kd.C_drewN ?_ _)|(with_reducible refine Kd.C_drew ?_)));(case side4=>exact HC1.out);rintro e w22 ⟨rfl,hb⟩;refine ⟨_,rfl,?_⟩;have n0_:=qA (Kd.N_below qy65 hb);have n1_:=qA (Kd.N_below qy64 hb);have n2_:=qA (Kd.V_below qy44 hb);have n3_:=qA (Kd.R_below (by (with_reducible repeat (first|apply Kd.R_alloc|apply Kd.R_drewN|apply Kd.R_drew));exact HO583.out) hb);have n4_:=qA (Kd.C_below qy4 hb);have n5_:=qA (below_step qy33 hb);clear HO_5;clear HO_7;clear HL580_0;clear HO583;clear HR580_0;clear HB;have HO_5:=n0_;have HO_7:=n1_;have HL580_0:=n2_;have HO583:=n3_;have HR580_0:=n4_;have HB:=n5_;clear n0_ n1_ n2_ n3_ n4_ n5_;(try clear hb);(try clear hb2);(try clear hk);(try clear hi))|((with_reducible refine gate_builtin (b:=.append) (xs:= #[.tmp 40,.tmp 42]) rfl ?_);at_builtin;refine Kd.N_append (Kd.slice 3 (Kd.int .i64)) (w0:=w) w.heap.size rfl (.tmp 40) (.tmp 42) 32 36 (.slice none 0 0) 24 rfl Tryz.underlying32 info36 rfl (by decide) (by omega) u7 x7_3 t581 [.slice Ao21 t581.length co21] (fun k_=>(w.heap.size≤k_)∧some k_≠(.slice (some ad580) x5_1.length co12:Value).ownBlock) (fun k_=>((fun k_=>(w.heap.size≤k_)∧some k_≠(.slice (some ad580) x5_1.length co12:Value).ownBlock)) k_∧some k_≠(u7:Value).ownBlock) rfl rfl ?aP (fun _ hk=>hk) ?aF ?aO ?aB ?aS ?aL ?_;(case aP=>exact (Kd.FK_slice_mk (Kd.R_reads' (Kd.R_mono (ok':=(fun k_=>((fun k_=>(w.heap.size≤k_)∧some k_≠(.slice (some ad580) x5_1.length co12:Value).ownBlock)) k_∧some k_≠(u7:Value).ownBlock)) (Kd.R_apart' (Kd.R_apart' (HO583.out) (Kd.N_typed HO_5.out) (by decide)) (Kd.N_typed HO_7.out) (by decide)) (fun k_ hk=>⟨⟨hk.1.1.1,hk.1.2⟩,hk.2⟩))).2.1 (Kd.R_F (Kd.R_mono (ok':=(fun k_=>((fun k_=>(w.heap.size≤k_)∧some k_≠(.slice (some ad580) x5_1.length co12:Value).ownBlock)) k_∧some k_≠(u7:Value).ownBlock)) (Kd.R_apart' (Kd.R_apart' (HO583.out) (Kd.N_typed HO_5.out) (by decide)) (Kd.N_typed HO_7.out) (by decide)) (fun k_ hk=>⟨⟨hk.1.1.1,hk.1.2⟩,hk.2⟩)))));(case aB=>exact qy33);(case aF=>exact (fun k_ hk=>⟨(Nat.le_trans (below_size qy33) hk),Kd.fresh' (Kd.N_lt qy65) k_ hk⟩));(case aO=>exact (by (with_reducible repeat (first|apply Kd.N_alloc|apply Kd.N_drewN|apply Kd.N_drew));exact Kd.N_mono HO_7.out (fun _ hk=>⟨hk.1.1,hk.1.2⟩)));(case aS=>exact (below_size qy33));(case aL=>have:=LMc19.out;omega);intro v586 w23 ho hb hg hat;rw [← Ny585.out] at ho;have n0_:=qA (Kd.N_afterv (ok:=(fun k_=>(w.heap.size≤k_)∧some k_≠(.slice Ao21 t581.length co21:Value).ownBlock)) (by (with_reducible repeat (first|apply Kd.N_alloc|apply Kd.N_drewN|apply Kd.N_drew));exact Kd.N_mono HO_5.out (fun _ hk=>⟨⟨hk.1.1,hk.2⟩,hk.1.2⟩)) hg hat);have n1_:=qA (Kd.V_afterv (ok:=(fun k_=>(w.heap.size≤k_)∧some k_≠(.slice (some ad580) x5_1.length co12:Value).ownBlock∧some k_≠(.slice Ao21 t581.length co21:Value).ownBlock)) (by (with_reducible repeat (first|apply Kd.V_alloc|apply Kd.V_drewN|apply Kd.V_drew));exact Kd.V_mono HL580_0.out (fun _ hk=>⟨⟨hk.1.1.1,⟨hk.1.2,hk.2⟩⟩,hk.1.1.2⟩)) hg hat);have n2_:=qA (hb);have n3_:=qA (ho);clear HO_5;clear HL580_0;clear HB;clear HO_7;clear HO583;have HO_5:=n0_;have HL580_0:=n1_;have HB:=n2_;have HO587:=n3_;clear n0_ n1_ n2_ n3_;clear ho hb hg hat))
              go_roundg k3
              case measure=>have:=HK1.out;have:=HK2.out;have:=HK3.out;omega
              case rel=>exact ⟨(y585),(wrap64 (x9_3+1)),qy76,H',⟨qy72⟩,⟨(by (with_reducible repeat (first|apply Kd.N_alloc|apply Kd.N_drewN|apply Kd.N_drew));exact Kd.N_mono HO_5.out (fun _ hk=>⟨hk.1.1,hk.2⟩))⟩,⟨(by (with_reducible repeat (first|apply Kd.N_alloc|apply Kd.N_drewN|apply Kd.N_drew));exact HO587.out)⟩,⟨qy33⟩⟩
             ·rw [if_neg c19] at H;exact absurd H (by simp)
            ·replace c18:=Bool.eq_false_iff.mpr c18;subst c18;have H1:(spec_l3Avoiding.l2 k3 a0 l1 x5_1 x6_1 x7_3 x8_2 (wrap64 (x9_3+1)))=some r:=by rw [if_neg (show ¬ (false=true) by decide)] at H;exact H
             clear H;have H:=H1;clear H1;have H':=qA H;clear H;have p580:0≤(x8_2:Int):=of_decide_eq_true qy73;have q580:x8_2 < (x5_1.length:Int):=of_decide_eq_true qy73;obtain ⟨ad580,A580_0,c580_0,e580,hx580_0,hl580_0,hi580_0⟩:=at_L2 (Kd.N_reads' HO_5.out).2.2 x8_2 p580 q580;cases e580;obtain ⟨ce580,hce580,hMe580,hcc580⟩:=Kd.N_get HO_5.out [] x8_2 p580 (by first|exact q580|exact of_decide_eq_true qy73|(have e_:=(Kd.N_reads' HO_5.out).1;omega));obtain ⟨ua580_0,uc580_0,rfl,ul580_0,ge580_0⟩:=Kd.FK_slice_open hMe580;have hv580_0:=hcc580 0 _ rfl;rw [Nat.add_zero,show ((Kd.slice 3 (Kd.int .i64))).sz=1 from rfl,Nat.mul_one] at hv580_0;replace hv580_0:=Option.some.inj (hv580_0.symm.trans hx580_0);injection hv580_0 with hva_ hvn_ hvc_
             rw [hva_] at ge580_0;rw [hvc_] at ul580_0;have HL580_0:=qA (show Kd.V (Kd.int .i64) 3 _ w.heap.size _ _ (rd_L2 x5_1 x8_2) from Kd.V_mk ul580_0 ge580_0);clear hva_ hvn_ hvc_ ge580_0 ul580_0;clear hcc580 hce580;have HR580_0:=qA hi580_0;have HC580_0:=qA hl580_0;clear hi580_0 hl580_0;replace p580:=eq_true p580;replace q580:=eq_true q580
             go_wp2_with (first|((with_reducible refine gate_callee (f:=124) rfl ?_);refine goesL_ (some 36) rfl rfl Tryz.func124 (by kernel_rfl) rfl #[.slice A580_0 (rd_L2 x5_1 x8_2).length c580_0,.int .i64 x9_3] rfl qy29 ?_;(with_reducible refine (spec_l3Insert.calls k3 _ _ (rd_L2 x5_1 x8_2) x9_3 t581 _ ?side1 ?side2 A16.out).mono ?_);(case side1=>repeat (first|exact qy4|(with_reducible refine Kd.C_alloc ?_ _)|(with_reducible refine Kd.C_drewN ?_ _)|(with_reducible refine Kd.C_drew ?_)));(case side2=>exact HC580_0.out);rintro e w24 ⟨v582,rfl,ho0,hb⟩;refine ⟨_,rfl,?_⟩;have n0_:=qA (Kd.N_elder' qy65 (Kd.R_base ho0) hb);have n1_:=qA (Kd.N_elder' qy64 (Kd.R_base ho0) hb);have n2_:=qA (Kd.V_elder' qy44 (Kd.R_base ho0) hb);have n3_:=qA (Kd.R_lower (Kd.R_newM (M:=fun k_=>(w.heap.size≤k_)) ho0 (below_size qy33) (fun k_ h_=>h_)) (below_size qy33));have n4_:=qA (Kd.C_below qy4 hb);have n5_:=qA (below_step qy33 hb);clear HO_5;clear HO_7;clear HL580_0;clear HR580_0;clear HB;have HO_5:=n0_;have HO_7:=n1_;have HL580_0:=n2_;have HO583:=n3_;have HR580_0:=n4_;have HB:=n5_;clear n0_ n1_ n2_ n3_ n4_ n5_;(try clear hb);(try clear hb2);(try clear hk);(try clear hi);(try clear ho0);obtain ⟨Ao25,co25,eo25⟩:=Kd.R_slice HO583.out;subst eo25)|((with_reducible refine gate_callee (f:=125) rfl ?_);refine goesL_ (some 39) rfl rfl Tryz.func125 (by kernel_rfl) rfl #[.slice Ao25 t581.length co25,.slice A1 l1.length c1] rfl qy29 ?_;(with_reducible refine (spec_l3Avoids.calls k3 _ _ t581 _ _ l1 false _ ?side1 ?side2 ?side3 ?side4 A17.out).mono ?_);(case side1=>repeat (first|exact (Kd.R_reads' HO583.out).2.2|(with_reducible refine Kd.C_alloc ?_ _)|(with_reducible refine Kd.C_drewN ?_ _)|(with_reducible refine Kd.C_drew ?_)));(case side2=>exact (Kd.R_reads' HO583.out).2.1);(case side3=>repeat (first|exact (Kd.C_below HR1.out HB.out)|(with_reducible refine Kd.C_alloc ?_ _)|(with_reducible refine Kd.C_drewN ?_ _)|(with_reducible refine Kd.C_drew ?_)));(case side4=>exact HC1.out);rintro e w26 ⟨rfl,hb⟩;refine ⟨_,rfl,?_⟩;have n0_:=qA (Kd.N_below qy65 hb);have n1_:=qA (Kd.N_below qy64 hb);have n2_:=qA (Kd.V_below qy44 hb);have n3_:=qA (Kd.R_below (by (with_reducible repeat (first|apply Kd.R_alloc|apply Kd.R_drewN|apply Kd.R_drew));exact HO583.out) hb);have n4_:=qA (Kd.C_below qy4 hb);have n5_:=qA (below_step qy33 hb);clear HO_5;clear HO_7;clear HL580_0;clear HO583;clear HR580_0;clear HB;have HO_5:=n0_;have HO_7:=n1_;have HL580_0:=n2_;have HO583:=n3_;have HR580_0:=n4_;have HB:=n5_;clear n0_ n1_ n2_ n3_ n4_ n5_;(try clear hb);(try clear hb2);(try clear hk);(try clear hi)))
             go_roundg k3
             case measure=>have:=HK1.out;have:=HK2.out;have:=HK3.out;omega
             case rel=>exact ⟨(x7_3),(wrap64 (x9_3+1)),qy76,H',⟨qy72⟩,⟨(by (with_reducible repeat (first|apply Kd.N_alloc|apply Kd.N_drewN|apply Kd.N_drew));exact Kd.N_mono HO_5.out (fun _ hk=>⟨hk.1.1,hk.1.2⟩))⟩,⟨(by (with_reducible repeat (first|apply Kd.N_alloc|apply Kd.N_drewN|apply Kd.N_drew));exact Kd.N_mono HO_7.out (fun _ hk=>⟨hk.1.1,hk.1.2⟩))⟩,⟨qy33⟩⟩
           ·rw [if_neg c15] at H;exact absurd H (by simp)
          ·rw [if_neg c14] at H;exact absurd H (by simp)
         ·rw [if_neg c13] at H;have c13b0:decide (x9_3≤(wrap64 (x6_1+1)))=false:=decide_eq_false c13;clear c13;have H':=qA H;clear H
          go_wp2
          go_roundg k3
          case measure=>have:=HK1.out;have:=HK2.out;have:=HK3.out;omega
          case rel=>exact ⟨(x7_3),(wrap64 (x8_2+1)),qy76,H',⟨qy72⟩,⟨qy65⟩,⟨qy64⟩,⟨qy33⟩⟩
      ·rw [if_neg c11] at H;have c11b0:decide (x8_2 < (x5_1.length:Int))=false:=decide_eq_false c11;clear c11;have H':=qA H;clear H;obtain ⟨Ao27,co27,eo27⟩:=Kd.N_slice HO_5.out;subst eo27
       go_wp2
       go_roundg k2
       case measure=>have:=HK1.out;have:=HK2.out;omega
       case rel=>exact ⟨(x7_2),(wrap64 (x6_1+1)),qy76,H',⟨qy78⟩,⟨(by (with_reducible repeat (first|apply Kd.N_alloc|apply Kd.N_drewN|apply Kd.N_drew));exact Kd.N_mono HO_7.out (fun _ hk=>hk.1))⟩,⟨qy33⟩⟩
   ·rw [if_neg c8] at H;have c8b0:decide (x6_1 < a0)=false:=decide_eq_false c8;clear c8;obtain rfl:=Option.some.inj H
    go_wp2
    go_ret;exact ⟨_,qy68,qy65,qy33⟩

/-! ### spec_ChanceAvoids: function 21 -/
def spec_ChanceAvoids.j0:Nat→Int→List (List Int)→Bool→Option (Int × Int × Bool)
 |0,_,_,_=>none
 |k+1,x0,x1,x13=>if x13=true then (some (0,0,false)) else ((spec_l3Avoiding.f k x0 x1).bind fun t591=>((spec_l2Orders.f k x0).bind fun t594=>((spec_l9Cut.f k (t591.length:Int) (t594.length:Int)).bind fun bt597=>(some (bt597.1,bt597.2,true)))))
def spec_ChanceAvoids.f (k:Nat) (a0:Int) (l1:List (List Int)):Option (Int × Int × Bool):=(spec_l9Size.f a0).bind fun t589=>(if t589=true then ((spec_l3Patterns.f k l1).bind fun t590=>(spec_ChanceAvoids.j0 k a0 l1 (!t590))) else (spec_ChanceAvoids.j0 k a0 l1 true))
set_option maxHeartbeats 8000000 in
set_option maxRecDepth 100000 in
theorem spec_ChanceAvoids.calls (k:Nat) (a0:Int) (A1:Option Addr) (c1:Nat) (l1:List (List Int)) (r1:Int) (r2:Int) (r3:Bool) (w:World) (hr1:Kd.C (Kd.slice 3 (Kd.int .i64)) w A1 l1.length l1) (hc1:l1.length≤c1) (h:spec_ChanceAvoids.f k a0 l1=some (r1,r2,r3)):
  Calls Tryz.prog 21 #[.int .i64 a0,.slice A1 l1.length c1] w fun e w'=>e=.returned (.tuple #[.agg #[.int .i64 r1,.int .i64 r2],.bool r3])∧Below w.heap.size w w':=by
 have hu25:=Tryz.underlying25;have HR1:=qA hr1;have HC1:=qA hc1;clear hr1 hc1;have HB:=qA (Below.refl w.heap.size w);have H:((spec_l9Size.f a0).bind fun t589=>(if t589=true then ((spec_l3Patterns.f k l1).bind fun t590=>(spec_ChanceAvoids.j0 k a0 l1 (!t590))) else (spec_ChanceAvoids.j0 k a0 l1 true)))=some (r1,r2,r3):=h;clear h;have HC3:=qA H;clear H;go_enter Tryz.func21,Tryz.ntmps21
 go_upto_region 1 with (first|((with_reducible refine gate_dst (N:=4) rfl ?_);refine box_event ?hg (N:=4) ?hd (cs:= #[.int .i64 0,.int .i64 0]) (t:=25) ?hr ?_;(case hd=>rfl);(case hg=>rfl);(case hr=>first|(go_simp;done)|(go_simp;rfl));intro gb588 hg w4 hbox hb;have n0_:=qA (below_step qy33 hb);have n1_:=qA (hbox);have n2_:=qA ((by rw [hg];exact (below_size qy33):w.heap.size≤gb588));have n3_:=qA ((by rw [hg];exact (below_size qy33):w.heap.size≤gb588));clear HB;have HB:=n0_;have BK588:=n1_;have GW588:=n2_;have GE588:=n3_;clear n0_ n1_ n2_ n3_;clear hb hbox hg))
 (try simp only [Act.put,List.setIfInBounds_toArray,List.set_cons_zero,List.set_cons_succ])
 go_cut [13] (fun v13 wc=>∃ (kq:Nat) (x13_2:Bool),v13=.bool x13_2∧Aside0 (spec_ChanceAvoids.j0 kq a0 l1 x13_2=some (r1,r2,r3))∧Aside0 (kq≤k)∧Aside0 (wc.heap[gb588]? =some (.cells #[.int .i64 0,.int .i64 0] 25 (0,0)))∧Aside0 (Below w.heap.size w wc))
 case first=>
  have H:=HC3.out;clear HC3;replace H:=Option.bind_eq_some_iff.mp H;obtain ⟨t589,A50,H⟩:=H;replace H:(if t589=true then ((spec_l3Patterns.f k l1).bind fun t590=>(spec_ChanceAvoids.j0 k a0 l1 (!t590))) else (spec_ChanceAvoids.j0 k a0 l1 true))=some (r1,r2,r3):=H;have A5:=qA A50;clear A50;by_cases c6:t589=true
  ·subst c6;have H1:((spec_l3Patterns.f k l1).bind fun t590=>(spec_ChanceAvoids.j0 k a0 l1 (!t590)))=some (r1,r2,r3):=by rw [if_pos rfl] at H;exact H
   clear H;have H:=H1;clear H1;replace H:=Option.bind_eq_some_iff.mp H;obtain ⟨t590,A70,H⟩:=H;replace H:(spec_ChanceAvoids.j0 k a0 l1 (!t590))=some (r1,r2,r3):=H;have A7:=qA A70;clear A70;have H':=qA H;clear H
   go_wp2_with (first|((with_reducible refine gate_callee (f:=47) rfl ?_);refine goesL_ (some 7) rfl rfl Tryz.func47 (by kernel_rfl) rfl #[.int .i64 a0] rfl qy29 ?_;(with_reducible refine (spec_l9Size.calls a0 true _ A5.out).mono ?_);rintro e w' ⟨rfl,⟨nd,rfl⟩⟩;refine ⟨_,rfl,?_⟩)|(go_at_call 73;(with_reducible refine (spec_l3Patterns.calls k _ _ l1 t590 _ ?side1 ?side2 A7.out).mono ?_);(case side1=>repeat (first|exact (Kd.C_below HR1.out qy15)|(with_reducible refine Kd.C_alloc ?_ _)|(with_reducible refine Kd.C_drewN ?_ _)|(with_reducible refine Kd.C_drew ?_)));(case side2=>exact HC1.out);rintro e w' ⟨rfl,⟨nd,rfl⟩⟩))
   go_meet
   case rel=>exact ⟨_,(!t590),qy76,H',⟨qy80⟩,⟨qy38⟩,⟨qy15⟩⟩
  ·replace c6:=Bool.eq_false_iff.mpr c6;subst c6;have H1:(spec_ChanceAvoids.j0 k a0 l1 true)=some (r1,r2,r3):=by rw [if_neg (show ¬ (false=true) by decide)] at H;exact H
   clear H;have H:=H1;clear H1;have H':=qA H;clear H
   go_wp2_with (first|((with_reducible refine gate_callee (f:=47) rfl ?_);refine goesL_ (some 7) rfl rfl Tryz.func47 (by kernel_rfl) rfl #[.int .i64 a0] rfl qy29 ?_;(with_reducible refine (spec_l9Size.calls a0 false _ A5.out).mono ?_);rintro e w' ⟨rfl,⟨nd,rfl⟩⟩;refine ⟨_,rfl,?_⟩))
   go_meet
   case rel=>exact ⟨_,(true),qy76,H',⟨qy80⟩,⟨qy38⟩,⟨qy15⟩⟩
 case rest=>
  clear HC3
  try clear c1
  try clear c2
  try clear p2
  try clear c4
  try clear c6
  obtain ⟨kq,x13_2,rfl,HA,HJ2,BK588,HB⟩:=hcut
  cases kq with
  |zero=>exact absurd HA.out (by simp [spec_ChanceAvoids.j0])
  |succ kj2=>
   have H:=HA.out;clear HA;simp only [spec_ChanceAvoids.j0] at H;by_cases c8:x13_2=true
   ·subst c8;have H1:(some (0,0,false))=some (r1,r2,r3):=by rw [if_pos rfl] at H;exact H
    clear H;have H:=H1;clear H1;simp only [Option.some.injEq,Prod.mk.injEq] at H;obtain ⟨rfl,rfl,rfl⟩:=H;have hcz9_0:wc.cell? ⟨gb588,0,none⟩=some (.int .i64 0):=(blk_cell BK588.out 0).trans rfl;have hcz9_1:wc.cell? ⟨gb588,1,none⟩=some (.int .i64 0):=(blk_cell BK588.out 1).trans rfl;have hfz9_0:=blk_frozen BK588.out 0;have hfz9_1:=blk_frozen BK588.out 1
    go_wp2
    refine bodyPost_ret (results_ct rfl _ _ gb588 25 #[.int .i64 0,.int .i64 0] (0,0) _ rfl (by (with_reducible repeat (first|refine blk_drewN ?_ _|refine blk_drew ?_|refine blk_alloc ?_ _));refine blk_put (cs:= #[.int .i64 0,.int .i64 0]) ?_ 1 _ rfl;(with_reducible repeat (first|refine blk_drewN ?_ _|refine blk_drew ?_|refine blk_alloc ?_ _));refine blk_put (cs:= #[.int .i64 0,.int .i64 0]) ?_ 0 _ rfl;(with_reducible repeat (first|refine blk_drewN ?_ _|refine blk_drew ?_|refine blk_alloc ?_ _));exact BK588.out) Tryz.underlying25 rfl (by kernel_rfl)) rfl ?_;exact ⟨qy68,qy15⟩
   ·replace c8:=Bool.eq_false_iff.mpr c8;subst c8;have H1:((spec_l3Avoiding.f kj2 a0 l1).bind fun t591=>((spec_l2Orders.f kj2 a0).bind fun t594=>((spec_l9Cut.f kj2 (t591.length:Int) (t594.length:Int)).bind fun bt597=>(some (bt597.1,bt597.2,true)))))=some (r1,r2,r3):=by rw [if_neg (show ¬ (false=true) by decide)] at H;exact H
    clear H;have H:=H1;clear H1;replace H:=Option.bind_eq_some_iff.mp H;obtain ⟨t591,A100,H⟩:=H;replace H:((spec_l2Orders.f kj2 a0).bind fun t594=>((spec_l9Cut.f kj2 (t591.length:Int) (t594.length:Int)).bind fun bt597=>(some (bt597.1,bt597.2,true))))=some (r1,r2,r3):=H;have A10:=qA A100;clear A100;replace H:=Option.bind_eq_some_iff.mp H;obtain ⟨t594,A110,H⟩:=H;replace H:((spec_l9Cut.f kj2 (t591.length:Int) (t594.length:Int)).bind fun bt597=>(some (bt597.1,bt597.2,true)))=some (r1,r2,r3):=H;have A11:=qA A110;clear A110;replace H:=Option.bind_eq_some_iff.mp H;obtain ⟨⟨t597,t598⟩,A120,H⟩:=H;replace H:(some (t597,t598,true))=some (r1,r2,r3):=H;have A12:=qA A120;clear A120;simp only [Option.some.injEq,Prod.mk.injEq] at H;obtain ⟨rfl,rfl,rfl⟩:=H
    go_wp2_with (first|((with_reducible refine gate_callee (f:=74) rfl ?_);refine goesL_ (some 17) rfl rfl Tryz.func74 (by kernel_rfl) rfl #[.int .i64 a0,.slice A1 l1.length c1] rfl qy29 ?_;(with_reducible refine (spec_l3Avoiding.calls kj2 a0 _ _ l1 t591 _ ?side1 ?side2 A10.out).mono ?_);(case side1=>repeat (first|exact (Kd.C_below HR1.out HB.out)|(with_reducible refine Kd.C_alloc ?_ _)|(with_reducible refine Kd.C_drewN ?_ _)|(with_reducible refine Kd.C_drew ?_)));(case side2=>exact HC1.out);rintro e w13 ⟨v592,rfl,ho0,hb⟩;refine ⟨_,rfl,?_⟩;have n0_:=qA (Kd.N_lower (Kd.N_mono (ok':=fun k_=>k_≠gb588) ho0 (fun k_ hk_=>(Kd.freshB (g:=gb588) (o:=.cells #[.int .i64 0,.int .i64 0] 25 (0,0)) qy38 k_ hk_))) (below_size qy15));have n1_:=qA (blk_below (g:=gb588) (o:=.cells #[.int .i64 0,.int .i64 0] 25 (0,0)) qy38 hb);have n2_:=qA (below_step qy15 hb);clear BK588;clear HB;have HO593:=n0_;have BK588:=n1_;have HB:=n2_;clear n0_ n1_ n2_;(try clear hb);(try clear hb2);(try clear hk);(try clear hi);(try clear ho0);obtain ⟨Ao14,co14,eo14⟩:=Kd.N_slice HO593.out;subst eo14)|((with_reducible refine gate_callee (f:=48) rfl ?_);refine goesL_ (some 20) rfl rfl Tryz.func48 (by kernel_rfl) rfl #[.int .i64 a0] rfl qy29 ?_;(with_reducible refine (spec_l2Orders.calls kj2 a0 t594 _ A11.out).mono ?_);rintro e w15 ⟨v595,rfl,ho0,hb⟩;refine ⟨_,rfl,?_⟩;have n0_:=qA (Kd.N_elder' qy55 (Kd.S_base ho0) hb);have n1_:=qA (Kd.N_lower (Kd.N_mono (ok':=fun k_=>some k_≠(.slice Ao14 t591.length co14:Value).ownBlock∧k_≠gb588) (Kd.S_N (Kd.S_bound ho0)) (fun k_ hk_=>⟨(Kd.fresh' (Kd.N_lt qy55) k_ hk_.2.1),(Kd.freshB (g:=gb588) (o:=.cells #[.int .i64 0,.int .i64 0] 25 (0,0)) qy38 k_ hk_.2.1)⟩)) (below_size qy15));have n2_:=qA (blk_below (g:=gb588) (o:=.cells #[.int .i64 0,.int .i64 0] 25 (0,0)) qy38 hb);have n3_:=qA (below_step qy15 hb);clear HO593;clear BK588;clear HB;have HO593:=n0_;have HO596:=n1_;have BK588:=n2_;have HB:=n3_;clear n0_ n1_ n2_ n3_;(try clear hb);(try clear hb2);(try clear hk);(try clear hi);(try clear ho0);obtain ⟨Ao16,co16,eo16⟩:=Kd.N_slice HO596.out;subst eo16)|((with_reducible refine gate_callee (f:=51) rfl ?_);refine goesL_ (some 22) rfl rfl Tryz.func51 (by kernel_rfl) rfl #[.int .i64 (t591.length:Int),.int .i64 (t594.length:Int)] rfl qy29 ?_;(with_reducible refine (spec_l9Cut.calls kj2 (t591.length:Int) (t594.length:Int) t597 t598 _ A12.out).mono ?_);rintro e w17 ⟨rfl,hb⟩;refine ⟨_,rfl,?_⟩;have n0_:=qA (Kd.N_below qy55 hb);have n1_:=qA (Kd.N_below (by (with_reducible repeat (first|apply Kd.N_alloc|apply Kd.N_drewN|apply Kd.N_drew));exact HO596.out) hb);have n2_:=qA (blk_below (g:=gb588) (o:=.cells #[.int .i64 0,.int .i64 0] 25 (0,0)) qy38 hb);have n3_:=qA (below_step qy15 hb);clear HO593;clear HO596;clear BK588;clear HB;have HO593:=n0_;have HO596:=n1_;have BK588:=n2_;have HB:=n3_;clear n0_ n1_ n2_ n3_;(try clear hb);(try clear hb2);(try clear hk);(try clear hi);have hcz18_0:w17.cell? ⟨gb588,0,none⟩=some (.int .i64 0):=(blk_cell BK588.out 0).trans rfl;have hcz18_1:w17.cell? ⟨gb588,1,none⟩=some (.int .i64 0):=(blk_cell BK588.out 1).trans rfl;have hfz18_0:=blk_frozen BK588.out 0;have hfz18_1:=blk_frozen BK588.out 1))
    refine bodyPost_ret (results_ct rfl _ _ gb588 25 #[.int .i64 t597,.int .i64 t598] (0,0) _ rfl (by (with_reducible repeat (first|refine blk_drewN ?_ _|refine blk_drew ?_|refine blk_alloc ?_ _));refine blk_put (cs:= #[.int .i64 t597,.int .i64 0]) ?_ 1 _ rfl;(with_reducible repeat (first|refine blk_drewN ?_ _|refine blk_drew ?_|refine blk_alloc ?_ _));refine blk_put (cs:= #[.int .i64 0,.int .i64 0]) ?_ 0 _ rfl;(with_reducible repeat (first|refine blk_drewN ?_ _|refine blk_drew ?_|refine blk_alloc ?_ _));exact BK588.out) Tryz.underlying25 rfl (by kernel_rfl)) rfl ?_;exact ⟨qy68,qy15⟩

/-! ### laws_vLess: function 22 -/
def laws_vLess.l0:Nat→Int→Int→Int→Int→Int→Int→Option (Bool)
 |0,_,_,_,_,_,_=>none
 |k+1,x5,x6,x600000,x600001,x601000,x601001=>if x6 > 0 then (if x6=0 then (none) else (laws_vLess.l0 k x6 (Int.tmod x5 x6) x600000 x600001 x601000 x601001)) else (if x5=0 then (none) else (some (decide ((wrap64 (x600000*(wrap64 (Int.tdiv x601001 x5)))) < (wrap64 (x601000*(wrap64 (Int.tdiv x600001 x5))))))))
def laws_vLess.f (k:Nat) (a0_0:Int) (a0_1:Int) (a1_0:Int) (a1_1:Int):Option (Bool):=laws_vLess.l0 k a0_1 a1_1 a0_0 a0_1 a1_0 a1_1
theorem laws_vLess.mono_l:∀ k,(∀ y0 y1 y2 y3 y4 y5,LeO (laws_vLess.l0 k y0 y1 y2 y3 y4 y5) (laws_vLess.l0 (k+1) y0 y1 y2 y3 y4 y5))
 |0=>fun _ _ _ _ _ _ r h=>by simp [laws_vLess.l0] at h
 |k+1=>by
  have ih0:=laws_vLess.mono_l k
  ·intro y0 y1 y2 y3 y4 y5;unfold laws_vLess.l0
   repeat' first
   |(with_reducible exact ih0 _ _ _ _ _ _)
   |(with_reducible exact LeO.refl _)
   |(with_reducible exact LeO.none _)
   |(with_reducible refine LeO.ite ?_ ?_)
   |(with_reducible refine LeO.bind ?_ (fun _=>?_))
   |exact ih0 _ _ _ _ _ _
   |exact LeO.none _
   |refine LeO.ite ?_ ?_
   |refine LeO.bind ?_ (fun _=>?_)
theorem laws_vLess.mono:∀ a0 a1 a2 a3 k,LeO (laws_vLess.f k a0 a1 a2 a3) (laws_vLess.f (k+1) a0 a1 a2 a3):=by
 intro a0 a1 a2 a3 k;have ih0:=laws_vLess.mono_l k;unfold laws_vLess.f
 repeat' first
   |(with_reducible exact ih0 _ _ _ _ _ _)
   |(with_reducible exact LeO.refl _)
   |(with_reducible exact LeO.none _)
   |(with_reducible refine LeO.ite ?_ ?_)
   |(with_reducible refine LeO.bind ?_ (fun _=>?_))
   |exact ih0 _ _ _ _ _ _
   |exact LeO.none _
   |refine LeO.ite ?_ ?_
   |refine LeO.bind ?_ (fun _=>?_)
set_option maxHeartbeats 8000000 in
set_option maxRecDepth 100000 in
theorem laws_vLess.calls (k:Nat) (a0_0:Int) (a0_1:Int) (a1_0:Int) (a1_1:Int) (r:Bool) (w:World) (h:laws_vLess.f k a0_0 a0_1 a1_0 a1_1=some r):
  Calls Tryz.prog 22 #[.agg #[.int .i64 a0_0,.int .i64 a0_1],.agg #[.int .i64 a1_0,.int .i64 a1_1]] w fun e w'=>e=.returned (.bool r)∧Below w.heap.size w w':=by
 have hu25:=Tryz.underlying25;have HB:=qA (Below.refl w.heap.size w);have H:(laws_vLess.l0 k a0_1 a1_1 a0_0 a0_1 a1_0 a1_1)=some r:=h;clear h;have H':=qA H;clear H;go_enter Tryz.func22,Tryz.ntmps22
 go_wp2_with (first|((with_reducible refine gate_dst (N:=2) rfl ?_);refine box_event ?hg (N:=2) ?hd (cs:= #[.int .i64 a0_0,.int .i64 a0_1]) (t:=25) ?hr ?_;(case hd=>rfl);(case hg=>rfl);(case hr=>first|(go_simp;done)|(go_simp;rfl));intro gb599 hg w3 hbox hb;have n0_:=qA (below_step qy33 hb);have n1_:=qA (hbox);have n2_:=qA ((by rw [hg];exact (below_size qy33):w.heap.size≤gb599));have n3_:=qA ((by rw [hg];exact (below_size qy33):w.heap.size≤gb599));clear HB;have HB:=n0_;have BK599:=n1_;have GW599:=n2_;have GE599:=n3_;clear n0_ n1_ n2_ n3_;clear hb hbox hg)|((with_reducible refine gate_dst (N:=3) rfl ?_);refine box_event ?hg (N:=3) ?hd (cs:= #[.int .i64 a1_0,.int .i64 a1_1]) (t:=25) ?hr ?_;(case hd=>rfl);(case hg=>rfl);(case hr=>first|(go_simp;done)|(go_simp;rfl));intro gb600 hg w4 hbox hb;have n0_:=qA (blk_below (g:=gb599) (o:=.cells #[.int .i64 a0_0,.int .i64 a0_1] 25 (0,0)) qy37 hb);have n1_:=qA (below_step qy14 hb);have n2_:=qA (hbox);have n3_:=qA ((by rw [hg];exact (below_size qy14):w.heap.size≤gb600));have n4_:=qA ((by rw [hg];exact (below_size qy14):w.heap.size≤gb600));have n5_:=qA ((by rw [hg];exact Nat.ne_of_lt (blk_lt (g:=gb599) (o:=.cells #[.int .i64 a0_0,.int .i64 a0_1] 25 (0,0)) qy37):gb599≠gb600));have n6_:=qA ((by rw [hg];exact Nat.ne_of_gt (blk_lt (g:=gb599) (o:=.cells #[.int .i64 a0_0,.int .i64 a0_1] 25 (0,0)) qy37):gb600≠gb599));clear BK599;clear HB;have BK599:=n0_;have HB:=n1_;have BK600:=n2_;have GW600:=n3_;have GE600:=n4_;have NB599_600:=n5_;have NB600_599:=n6_;clear n0_ n1_ n2_ n3_ n4_ n5_ n6_;clear hb hbox hg;have hnb5:=NB599_600.out;have hnc5:=NB600_599.out;have hcz6_0:w4.cell? ⟨gb599,0,none⟩=some (.int .i64 a0_0):=(blk_cell BK599.out 0).trans rfl;have hcz6_1:w4.cell? ⟨gb599,1,none⟩=some (.int .i64 a0_1):=(blk_cell BK599.out 1).trans rfl;have hfz6_0:=blk_frozen BK599.out 0;have hfz6_1:=blk_frozen BK599.out 1;have hcz7_0:w4.cell? ⟨gb600,0,none⟩=some (.int .i64 a1_0):=(blk_cell BK600.out 0).trans rfl;have hcz7_1:w4.cell? ⟨gb600,1,none⟩=some (.int .i64 a1_1):=(blk_cell BK600.out 1).trans rfl;have hfz7_0:=blk_frozen BK600.out 0;have hfz7_1:=blk_frozen BK600.out 1))
 repeat (go_quiet (first|((with_reducible refine gate_dst (N:=2) rfl ?_);refine box_event ?hg (N:=2) ?hd (cs:= #[.int .i64 a0_0,.int .i64 a0_1]) (t:=25) ?hr ?_;(case hd=>rfl);(case hg=>rfl);(case hr=>first|(go_simp;done)|(go_simp;rfl));intro gb599 hg w3 hbox hb;have n0_:=qA (below_step qy33 hb);have n1_:=qA (hbox);have n2_:=qA ((by rw [hg];exact (below_size qy33):w.heap.size≤gb599));have n3_:=qA ((by rw [hg];exact (below_size qy33):w.heap.size≤gb599));clear HB;have HB:=n0_;have BK599:=n1_;have GW599:=n2_;have GE599:=n3_;clear n0_ n1_ n2_ n3_;clear hb hbox hg)|((with_reducible refine gate_dst (N:=3) rfl ?_);refine box_event ?hg (N:=3) ?hd (cs:= #[.int .i64 a1_0,.int .i64 a1_1]) (t:=25) ?hr ?_;(case hd=>rfl);(case hg=>rfl);(case hr=>first|(go_simp;done)|(go_simp;rfl));intro gb600 hg w4 hbox hb;have n0_:=qA (blk_below (g:=gb599) (o:=.cells #[.int .i64 a0_0,.int .i64 a0_1] 25 (0,0)) qy37 hb);have n1_:=qA (below_step qy14 hb);have n2_:=qA (hbox);have n3_:=qA ((by rw [hg];exact (below_size qy14):w.heap.size≤gb600));have n4_:=qA ((by rw [hg];exact (below_size qy14):w.heap.size≤gb600));have n5_:=qA ((by rw [hg];exact Nat.ne_of_lt (blk_lt (g:=gb599) (o:=.cells #[.int .i64 a0_0,.int .i64 a0_1] 25 (0,0)) qy37):gb599≠gb600));have n6_:=qA ((by rw [hg];exact Nat.ne_of_gt (blk_lt (g:=gb599) (o:=.cells #[.int .i64 a0_0,.int .i64 a0_1] 25 (0,0)) qy37):gb600≠gb599));clear BK599;clear HB;have BK599:=n0_;have HB:=n1_;have BK600:=n2_;have GW600:=n3_;have GE600:=n4_;have NB599_600:=n5_;have NB600_599:=n6_;clear n0_ n1_ n2_ n3_ n4_ n5_ n6_;clear hb hbox hg;have hnb5:=NB599_600.out;have hnc5:=NB600_599.out;have hcz6_0:w4.cell? ⟨gb599,0,none⟩=some (.int .i64 a0_0):=(blk_cell BK599.out 0).trans rfl;have hcz6_1:w4.cell? ⟨gb599,1,none⟩=some (.int .i64 a0_1):=(blk_cell BK599.out 1).trans rfl;have hfz6_0:=blk_frozen BK599.out 0;have hfz6_1:=blk_frozen BK599.out 1;have hcz7_0:w4.cell? ⟨gb600,0,none⟩=some (.int .i64 a1_0):=(blk_cell BK600.out 0).trans rfl;have hcz7_1:w4.cell? ⟨gb600,1,none⟩=some (.int .i64 a1_1):=(blk_cell BK600.out 1).trans rfl;have hfz7_0:=blk_frozen BK600.out 0;have hfz7_1:=blk_frozen BK600.out 1));try go_wp2_with (first|((with_reducible refine gate_dst (N:=2) rfl ?_);refine box_event ?hg (N:=2) ?hd (cs:= #[.int .i64 a0_0,.int .i64 a0_1]) (t:=25) ?hr ?_;(case hd=>rfl);(case hg=>rfl);(case hr=>first|(go_simp;done)|(go_simp;rfl));intro gb599 hg w3 hbox hb;have n0_:=qA (below_step qy33 hb);have n1_:=qA (hbox);have n2_:=qA ((by rw [hg];exact (below_size qy33):w.heap.size≤gb599));have n3_:=qA ((by rw [hg];exact (below_size qy33):w.heap.size≤gb599));clear HB;have HB:=n0_;have BK599:=n1_;have GW599:=n2_;have GE599:=n3_;clear n0_ n1_ n2_ n3_;clear hb hbox hg)|((with_reducible refine gate_dst (N:=3) rfl ?_);refine box_event ?hg (N:=3) ?hd (cs:= #[.int .i64 a1_0,.int .i64 a1_1]) (t:=25) ?hr ?_;(case hd=>rfl);(case hg=>rfl);(case hr=>first|(go_simp;done)|(go_simp;rfl));intro gb600 hg w4 hbox hb;have n0_:=qA (blk_below (g:=gb599) (o:=.cells #[.int .i64 a0_0,.int .i64 a0_1] 25 (0,0)) qy37 hb);have n1_:=qA (below_step qy14 hb);have n2_:=qA (hbox);have n3_:=qA ((by rw [hg];exact (below_size qy14):w.heap.size≤gb600));have n4_:=qA ((by rw [hg];exact (below_size qy14):w.heap.size≤gb600));have n5_:=qA ((by rw [hg];exact Nat.ne_of_lt (blk_lt (g:=gb599) (o:=.cells #[.int .i64 a0_0,.int .i64 a0_1] 25 (0,0)) qy37):gb599≠gb600));have n6_:=qA ((by rw [hg];exact Nat.ne_of_gt (blk_lt (g:=gb599) (o:=.cells #[.int .i64 a0_0,.int .i64 a0_1] 25 (0,0)) qy37):gb600≠gb599));clear BK599;clear HB;have BK599:=n0_;have HB:=n1_;have BK600:=n2_;have GW600:=n3_;have GE600:=n4_;have NB599_600:=n5_;have NB600_599:=n6_;clear n0_ n1_ n2_ n3_ n4_ n5_ n6_;clear hb hbox hg;have hnb5:=NB599_600.out;have hnc5:=NB600_599.out;have hcz6_0:w4.cell? ⟨gb599,0,none⟩=some (.int .i64 a0_0):=(blk_cell BK599.out 0).trans rfl;have hcz6_1:w4.cell? ⟨gb599,1,none⟩=some (.int .i64 a0_1):=(blk_cell BK599.out 1).trans rfl;have hfz6_0:=blk_frozen BK599.out 0;have hfz6_1:=blk_frozen BK599.out 1;have hcz7_0:w4.cell? ⟨gb600,0,none⟩=some (.int .i64 a1_0):=(blk_cell BK600.out 0).trans rfl;have hcz7_1:w4.cell? ⟨gb600,1,none⟩=some (.int .i64 a1_1):=(blk_cell BK600.out 1).trans rfl;have hfz7_0:=blk_frozen BK600.out 0;have hfz7_1:=blk_frozen BK600.out 1)))
 go_loopg [5,6] k (fun kq v5 v6 w'=>∃ (x5_1:Int) (x6_1:Int),v5=.int .i64 x5_1∧v6=.int .i64 x6_1∧Aside0 (laws_vLess.l0 kq x5_1 x6_1 a0_0 a0_1 a1_0 a1_1=some r)∧Aside0 (kq≤k)∧Aside0 (w'.heap[gb599]? =some (.cells #[.int .i64 a0_0,.int .i64 a0_1] 25 (0,0)))∧Aside0 (w'.heap[gb600]? =some (.cells #[.int .i64 a1_0,.int .i64 a1_1] 25 (0,0)))∧Aside0 (Below w.heap.size w w'))
 case atStart=>exact ⟨(a0_1),(a1_1),qy76,qy76,H',⟨Nat.le_refl _⟩,⟨qy37⟩,⟨(by (with_reducible repeat (first|refine blk_drewN ?_ _|refine blk_drew ?_|refine blk_alloc ?_ _));exact BK600.out)⟩,⟨qy3⟩⟩
 case round=>
  clear H'
  try clear c2
  try clear p2
  try clear c5
  try clear hcz6_0
  try clear hcz6_1
  try clear hcz7_0
  try clear hcz7_1
  try clear hfz6_0
  try clear hfz6_1
  try clear hfz7_0
  try clear hfz7_1
  obtain ⟨x5_1,x6_1,rfl,rfl,HA,HK1,BK599,BK600,HB⟩:=hrel
  cases gk with
  |zero=>exact absurd HA.out (by simp [laws_vLess.l0])
  |succ k1=>
   have H:=HA.out;clear HA;simp only [laws_vLess.l0] at H;by_cases c8:x6_1 > 0
   ·rw [if_pos c8] at H;have c8b0:decide (0 < x6_1)=true:=decide_eq_true c8;clear c8;by_cases c9:x6_1=0
    ·rw [if_pos c9] at H;exact absurd H (by simp)
    ·rw [if_neg c9] at H;have c9b0:(x6_1==0)=false:=beq_eq_false_iff_ne.mpr c9;have c9b1:(x6_1 != 0)=true:=bne_iff_ne.mpr c9;have H':=qA H;clear H
     go_wp2
     repeat (go_quiet (fail);try go_wp2)
     go_roundg k1
     case measure=>have:=HK1.out;omega
     case rel=>exact ⟨(x6_1),(Int.tmod x5_1 x6_1),qy76,qy76,H',⟨qy81⟩,⟨qy37⟩,⟨(by (with_reducible repeat (first|refine blk_drewN ?_ _|refine blk_drew ?_|refine blk_alloc ?_ _));exact BK600.out)⟩,⟨qy3⟩⟩
   ·rw [if_neg c8] at H;have c8b0:decide (0 < x6_1)=false:=decide_eq_false c8;clear c8;by_cases c10:x5_1=0
    ·rw [if_pos c10] at H;exact absurd H (by simp)
    ·rw [if_neg c10] at H;have c10b0:(x5_1==0)=false:=beq_eq_false_iff_ne.mpr c10;have c10b1:(x5_1 != 0)=true:=bne_iff_ne.mpr c10;obtain rfl:=Option.some.inj H;have hnb11:=NB599_600.out;have hnc11:=NB600_599.out;have hcz12_0:wr.cell? ⟨gb599,0,none⟩=some (.int .i64 a0_0):=(blk_cell BK599.out 0).trans rfl;have hcz12_1:wr.cell? ⟨gb599,1,none⟩=some (.int .i64 a0_1):=(blk_cell BK599.out 1).trans rfl;have hfz12_0:=blk_frozen BK599.out 0;have hfz12_1:=blk_frozen BK599.out 1;have hcz13_0:wr.cell? ⟨gb600,0,none⟩=some (.int .i64 a1_0):=(blk_cell BK600.out 0).trans rfl;have hcz13_1:wr.cell? ⟨gb600,1,none⟩=some (.int .i64 a1_1):=(blk_cell BK600.out 1).trans rfl;have hfz13_0:=blk_frozen BK600.out 0;have hfz13_1:=blk_frozen BK600.out 1
     go_wp2
     repeat (go_quiet (fail);try go_wp2)
     go_ret;exact ⟨qy68,qy3⟩

end Go.Proofs.YtaoecbpfocillaaGreat.Xdz
