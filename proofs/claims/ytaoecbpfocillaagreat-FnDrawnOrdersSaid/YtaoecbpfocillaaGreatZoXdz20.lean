-- Written by this session's own program (xprint.py) over the kit's print.py: functions, contracts and rows of the laws of one seat.
import Derived.Test.YtaoecbpfocillaaGreatZoXdz0
import Derived.Test.YtaoecbpfocillaaGreatZoXdz9
import Derived.Test.YtaoecbpfocillaaGreatZoXdz19
namespace Go.Proofs.YtaoecbpfocillaaGreat.Xdz
open Go.RowKit Go.Proofs.YtaoecbpfocillaaGreatW.PrintWords Go.Proofs.YtaoecbpfocillaaGreatW.PrintLast Go.Proofs.YtaoecbpfocillaaGreatW.PrintMore
attribute [local go_sem] max2_int min2_int max_two min_two max_three min_three max_four min_four -- for this text's walks alone
set_option linter.unusedVariables false
set_option linter.unusedSimpArgs false

/-! ### spec_l3Goes: function 165 -/
mutual
def spec_l3Goes.j0:Nat→List Int→List Int→List Int→Int→Bool→Option (Bool)
 |0,_,_,_,_,_=>none
 |k+1,x0,x1,x2,x3,x23=>if x23=true then (some false) else (if (x2.length:Int)=(x1.length:Int) then (some true) else (spec_l3Goes.l0 k x0 x1 x2 x3))
def spec_l3Goes.l0:Nat→List Int→List Int→List Int→Int→Option (Bool)
 |0,_,_,_,_=>none
 |k+1,x0,x1,x2,x9=>if x9 < (x0.length:Int) then ((spec_l1Own.f x2).bind fun t554=>(if 0≤x9 then ((some (([rd x0 x9]:List Int):List Int)).bind fun y558=>(if t554.length+y558.length < 17592186044416 then ((spec_l3Goes.f k x0 x1 (t554++y558) (wrap64 (x9+1))).bind fun t564=>(if t564=true then (some true) else (spec_l3Goes.l0 k x0 x1 x2 (wrap64 (x9+1))))) else (none))) else (none))) else (some false)
def spec_l3Goes.f:Nat→List Int→List Int→List Int→Int→Option (Bool)
 |0,_,_,_,_=>none
 |k+1,l0,l1,l2,a3=>if (l2.length:Int) > 0 then ((spec_l3Shape.f k l2).bind fun t546=>(if 0≤(l2.length:Int) then (if (l2.length:Int)≤(l1.length:Int) then ((spec_l3Shape.f k (l1.take ((l2.length:Int):Int).toNat)).bind fun t550=>((spec_l1Same.f k t546 t550).bind fun t553=>(spec_l3Goes.j0 k l0 l1 l2 a3 (!t553)))) else (none)) else (none))) else (spec_l3Goes.j0 k l0 l1 l2 a3 false)
end
def spec_l3Goes.T1:Bool × List (List Nat × List Nat):=(true,[([],[]),([0],[0]),([1],[1]),([2],[2]),([3],[3]),([4,3,3],[3,4]),([3],[3]),([3],[3]),([7,3],[3,7]),([6,8,3],[3,6,8]),([9,5,3],[3,9]),([5,10,10,3],[3,5,10]),([11,3],[3,11]),([3,12],[3,12])])
def spec_l3Goes.B1:List Nat:=[0,1,3,7,15,31,15,15,143,463,1023,2047,4095,8191]
theorem spec_l3Goes.tab1:rtab .any (opsOf Tryz.f165 1)=spec_l3Goes.T1:=by kernel_rfl
theorem spec_l3Goes.bits1:waitsOk spec_l3Goes.T1.2 spec_l3Goes.B1=true:=by kernel_rfl
def spec_l3Goes.T8:Bool × List (List Nat × List Nat):=(true,[([],[]),([],[]),([],[]),([2],[2]),([],[]),([],[]),([4,5],[4,5]),([6],[6]),([7],[7]),([3,8,3],[3,8]),([],[]),([10],[10]),([0,1,9,11,9],[0,1,9,11])])
def spec_l3Goes.B8:List Nat:=[0,0,0,4,0,0,48,112,240,508,0,1024,4095]
theorem spec_l3Goes.tab8:rtab .any (opsOf Tryz.f165 8)=spec_l3Goes.T8:=by kernel_rfl
theorem spec_l3Goes.bits8:waitsOk spec_l3Goes.T8.2 spec_l3Goes.B8=true:=by kernel_rfl
set_option maxHeartbeats 8000000 in
set_option maxRecDepth 100000 in
theorem spec_l3Goes.calls (k:Nat):∀ (A0:Option Addr) (c0:Nat) (l0:List Int) (A1:Option Addr) (c1:Nat) (l1:List Int) (A2:Option Addr) (c2:Nat) (l2:List Int) (a3:Int) (r:Bool) (w:World) (hr0:Kd.C (Kd.int .i64) w A0 l0.length l0) (hc0:l0.length≤c0) (hr1:Kd.C (Kd.int .i64) w A1 l1.length l1) (hc1:l1.length≤c1) (hr2:Kd.C (Kd.int .i64) w A2 l2.length l2) (hc2:l2.length≤c2) (h:spec_l3Goes.f k l0 l1 l2 a3=some r),
  Calls Tryz.prog 165 #[.slice A0 l0.length c0,.slice A1 l1.length c1,.slice A2 l2.length c2,.int .i64 a3] w fun e w'=>e=.returned (.bool r)∧Below w.heap.size w w':=by
 induction k using Nat.strongRecOn with
 |_ k ih=>
 intro A0 c0 l0 A1 c1 l1 A2 c2 l2 a3 r w hr0 hc0 hr1 hc1 hr2 hc2 h
 cases k with
 |zero=>exact absurd h (by simp [spec_l3Goes.f])
 |succ k=>
 simp only [spec_l3Goes.f] at h;have HR0:=qA hr0;have HC0:=qA hc0;clear hr0 hc0;have HR1:=qA hr1;have HC1:=qA hc1;clear hr1 hc1;have HR2:=qA hr2;have HC2:=qA hc2;clear hr2 hc2;have HB:=qA (Below.refl w.heap.size w);have H:(if (l2.length:Int) > 0 then ((spec_l3Shape.f k l2).bind fun t546=>(if 0≤(l2.length:Int) then (if (l2.length:Int)≤(l1.length:Int) then ((spec_l3Shape.f k (l1.take ((l2.length:Int):Int).toNat)).bind fun t550=>((spec_l1Same.f k t546 t550).bind fun t553=>(spec_l3Goes.j0 k l0 l1 l2 a3 (!t553)))) else (none)) else (none))) else (spec_l3Goes.j0 k l0 l1 l2 a3 false))=some r:=h;clear h;have HC5:=qA H;clear H;go_enter Tryz.func165,Tryz.ntmps165
 go_upto_region 1 with (fail)
 go_cut [23] (fun v23 wc=>∃ (kq:Nat) (x23_4:Bool),v23=.bool x23_4∧Aside0 (spec_l3Goes.j0 kq l0 l1 l2 a3 x23_4=some r)∧Aside0 (kq≤k)∧Aside0 (Below w.heap.size w wc))
 case first=>
  have H:=HC5.out;clear HC5;by_cases c6:(l2.length:Int) > 0
  ·rw [if_pos c6] at H;have c6b0:decide (0 < (l2.length:Int))=true:=decide_eq_true c6;have c6b1:decide (0 < l2.length)=true:=decide_eq_true (by omega);clear c6
   (first|rw [c6b0]|(simp only [i64_w,i32_w];rw [c6b0])|skip)
   replace H:=Option.bind_eq_some_iff.mp H;obtain ⟨t546,A70,H⟩:=H;replace H:(if 0≤(l2.length:Int) then (if (l2.length:Int)≤(l1.length:Int) then ((spec_l3Shape.f k (l1.take ((l2.length:Int):Int).toNat)).bind fun t550=>((spec_l1Same.f k t546 t550).bind fun t553=>(spec_l3Goes.j0 k l0 l1 l2 a3 (!t553)))) else (none)) else (none))=some r:=H;have A7:=qA A70;clear A70;by_cases c8:0≤(l2.length:Int)
   ·rw [if_pos c8] at H;have c8b0:=eq_true c8;have c8b1:decide (0≤(l2.length:Int))=true:=decide_eq_true c8;clear c8;by_cases c9:(l2.length:Int)≤(l1.length:Int)
    ·rw [if_pos c9] at H;have c9b0:=eq_true c9;have c9b1:decide ((l2.length:Int)≤(l1.length:Int))=true:=decide_eq_true c9;clear c9;replace H:=Option.bind_eq_some_iff.mp H;obtain ⟨t550,A100,H⟩:=H;replace H:((spec_l1Same.f k t546 t550).bind fun t553=>(spec_l3Goes.j0 k l0 l1 l2 a3 (!t553)))=some r:=H;have A10:=qA A100;clear A100;replace H:=Option.bind_eq_some_iff.mp H;obtain ⟨t553,A110,H⟩:=H;replace H:(spec_l3Goes.j0 k l0 l1 l2 a3 (!t553))=some r:=H;have A11:=qA A110;clear A110;have H':=qA H;clear H
     try go_wp2
     have n0_:=qA (below_drew1 HB.out);clear HB;have HB:=n0_;clear n0_;obtain ⟨i013,hi013,_,hsz13,_⟩:=info_parts info3;obtain ⟨hcut13,hA13,hC13⟩:=print_take_of (P:=Tryz.prog) (Value.int .i64) 0 36 3 .i64 Tryz.underlying36 hi013 hsz13 A1 c1 l1 (l2.length:Int) (of_decide_eq_true qy73) (of_decide_eq_true qy73) HC1.out;have HR549:=qA (Kd.C_of_reads (h1:=fun _=>rfl) (hA13 _ (Kd.reads_of_C HR1.out)));have HC549:=qA hC13;clear hA13 hC13 hi013 hsz13;refine start_ (n:=14) (S:=fun w'=>True) (ds:=[]) #[false,false,false,false,false,false,false,false,false,false,false,false,false,false] (by kernel_rfl) rfl rfl trivial (fun hHeld=>?_);refine with_tabW spec_l3Goes.tab1 spec_l3Goes.bits1 (fun HT_ HW_=>?_);generalize w.drew=w12 at HB HR549 hHeld ⊢;refine pU 0 (some 10) rfl rfl ?_;refine pU 1 (some 11) rfl rfl ?_;refine pU 2 (some 12) rfl rfl ?_;refine pU 3 (some 13) rfl rfl ?_;refine pU 4 (some 14) rfl rfl ?_;refine pU 6 (some 16) rfl rfl ?_;refine pU 7 (some 17) rfl rfl ?_;refine pU 8 (some 18) rfl rfl ?_;refine pU 9 (some 19) rfl rfl ?_;refine one_ (i:=5) (N:=some 15) #[true,true,true,true,true,true,true,true,true,true,false,false,false,false] rfl rfl (one_of HT_.out (by kernel_rfl)) (by decide) (fun K hK=>?_);refine goes_ Tryz.func174 (by kernel_rfl) rfl #[.slice A2 l2.length c2] (by rfl) rfl rfl qy29 ?_
     with_reducible refine (spec_l3Shape.calls k _ _ l2 t546 _ ?side1 ?side2 A7.out).mono ?_
     (case side1=>repeat (first|exact (Kd.C_below HR2.out HB.out)|(with_reducible refine Kd.C_alloc ?_ _)|(with_reducible refine Kd.C_drewN ?_ _)|(with_reducible refine Kd.C_drew ?_)))
     (case side2=>exact HC2.out)
     rintro e w14 ⟨v547,rfl,ho0,hb⟩;refine ⟨_,rfl,?_⟩;have n0_:=qA (Kd.R_lower ho0 (below_size qy33));have n1_:=qA (below_step qy33 hb);clear HB;have HO548:=n0_;have HB:=n1_;clear n0_ n1_
     (try clear hb)
     (try clear hb2)
     (try clear hk)
     (try clear hi)
     (try clear ho0)
     refine hK.out _ _ trivial (fun hHeld=>?_);clear hK K;refine norm_ (a':=?_) ?_ ?_;rotate_left
     ·show Act.put _ (some 15) _=_
      simp only [Act.put,List.setIfInBounds_toArray,List.set_cons_zero,List.set_cons_succ,i64_w,i32_w];rfl
     refine one_ (i:=10) (N:=some 20) #[true,true,true,true,true,true,true,true,true,true,true,false,false,false] rfl rfl (one_of HT_.out (by kernel_rfl)) (by decide) (fun K hK=>?_);refine goes_ Tryz.func174 (by kernel_rfl) rfl #[.slice A1 (l1.take ((l2.length:Int):Int).toNat).length c1] (by rfl) rfl rfl (by (try simp only [List.map_toArray,List.map_cons,List.map_nil]);first|done|(rw [show (l1.take ((l2.length:Int):Int).toNat).length=(l2.length:Int).toNat from (by rw [List.length_take];have h_:((l2.length:Int):Int)≤(l1.length:Int):=of_decide_eq_true qy73;omega)]<;>rfl)|rfl|(simp only [List.length_drop,List.length_take];rfl)) ?_
     with_reducible refine (spec_l3Shape.calls k _ _ (l1.take ((l2.length:Int):Int).toNat) t550 _ ?side1 ?side2 A10.out).mono ?_
     (case side1=>repeat (first|exact (Kd.C_below HR549.out HB.out)|(with_reducible refine Kd.C_alloc ?_ _)|(with_reducible refine Kd.C_drewN ?_ _)|(with_reducible refine Kd.C_drew ?_)))
     (case side2=>exact HC549.out)
     rintro e w15 ⟨v551,rfl,ho0,hb⟩;refine ⟨_,rfl,?_⟩;have n0_:=qA (Kd.R_elder' (by (with_reducible repeat (first|apply Kd.R_alloc|apply Kd.R_drewN|apply Kd.R_drew));exact HO548.out) (Kd.R_base ho0) hb);have n1_:=qA (Kd.R_lower (Kd.R_new' ho0 (Kd.R_lt (by (with_reducible repeat (first|apply Kd.R_alloc|apply Kd.R_drewN|apply Kd.R_drew));exact HO548.out))) (below_size qy33));have n2_:=qA (below_step qy33 hb);clear HO548;clear HB;have HO548:=n0_;have HO552:=n1_;have HB:=n2_;clear n0_ n1_ n2_
     (try clear hb)
     (try clear hb2)
     (try clear hk)
     (try clear hi)
     (try clear ho0)
     obtain ⟨Ao16,co16,eo16⟩:=Kd.R_slice HO548.out
     (first|subst eo16|(injection eo16 with f1_ f2_ f3_;have f4_:=f1_.symm;have f5_:=f3_.symm;clear f1_ f2_ f3_;subst f4_;subst f5_))
     obtain ⟨Ao17,co17,eo17⟩:=Kd.R_slice HO552.out
     (first|subst eo17|(injection eo17 with f1_ f2_ f3_;have f4_:=f1_.symm;have f5_:=f3_.symm;clear f1_ f2_ f3_;subst f4_;subst f5_))
     refine hK.out _ _ trivial (fun hHeld=>?_);clear hK K;refine norm_ (a':=?_) ?_ ?_;rotate_left
     ·show Act.put _ (some 20) _=_
      simp only [Act.put,List.setIfInBounds_toArray,List.set_cons_zero,List.set_cons_succ,i64_w,i32_w];rfl
     refine one_ (i:=11) (N:=some 21) #[true,true,true,true,true,true,true,true,true,true,true,true,false,false] rfl rfl (one_of HT_.out (by kernel_rfl)) (by decide) (fun K hK=>?_);refine goes_ Tryz.func84 (by kernel_rfl) rfl #[.slice Ao16 t546.length co16,.slice Ao17 t550.length co17] (by rfl) rfl rfl qy29 ?_
     with_reducible refine (spec_l1Same.calls k _ _ t546 _ _ t550 t553 _ ?side1 ?side2 ?side3 ?side4 A11.out).mono ?_
     (case side1=>repeat (first|exact (Kd.R_reads' HO548.out).2.2|(with_reducible refine Kd.C_alloc ?_ _)|(with_reducible refine Kd.C_drewN ?_ _)|(with_reducible refine Kd.C_drew ?_)))
     (case side2=>exact (Kd.R_reads' HO548.out).2.1)
     (case side3=>repeat (first|exact (Kd.R_reads' HO552.out).2.2|(with_reducible refine Kd.C_alloc ?_ _)|(with_reducible refine Kd.C_drewN ?_ _)|(with_reducible refine Kd.C_drew ?_)))
     (case side4=>exact (Kd.R_reads' HO552.out).2.1)
     rintro e w' ⟨rfl,⟨nd,rfl⟩⟩;refine ⟨_,rfl,?_⟩;refine hK.out _ _ trivial (fun hHeld=>?_);clear hK K;refine norm_ (a':=?_) ?_ ?_;rotate_left
     ·show Act.put _ (some 21) _=_
      simp only [Act.put,List.setIfInBounds_toArray,List.set_cons_zero,List.set_cons_succ,i64_w,i32_w];rfl
     refine pU 12 (some 22) rfl rfl ?_;refine pU 13 (some 23) rfl rfl ?_;refine done_ (done_of HT_.out (by kernel_rfl)) ?_
     try go_wp2
     go_meet
     case rel=>exact ⟨_,(!t553),qy76,H',⟨qy80⟩,⟨qy33⟩⟩
    ·rw [if_neg c9] at H;exact absurd H (by simp)
   ·rw [if_neg c8] at H;exact absurd H (by simp)
  ·rw [if_neg c6] at H;have c6b0:decide (0 < (l2.length:Int))=false:=decide_eq_false c6;have c6b1:decide (0 < l2.length)=false:=decide_eq_false (by omega);clear c6
   (first|rw [c6b0]|(simp only [i64_w,i32_w];rw [c6b0])|skip)
   have H':=qA H;clear H
   try go_wp2
   have n0_:=qA (below_drew1 HB.out);clear HB;have HB:=n0_;clear n0_;refine start_ (n:=14) (S:=fun w'=>True) (ds:=[]) #[false,false,false,false,false,false,false,false,false,false,false,false,false,false] (by kernel_rfl) rfl rfl trivial (fun hHeld=>?_);refine with_tabW spec_l3Goes.tab1 spec_l3Goes.bits1 (fun HT_ HW_=>?_);generalize w.drew=w18 at HB hHeld ⊢;refine pU 0 (some 10) rfl rfl ?_;refine pU 1 (some 11) rfl rfl ?_;refine pU 2 (some 12) rfl rfl ?_;refine pU 3 (some 13) rfl rfl ?_;refine pS (v:=undef) 4 (some 14) rfl rfl ?_;refine pS (v:=undef) 5 (some 15) rfl rfl ?_;refine pS (v:=undef) 6 (some 16) rfl rfl ?_;refine pS (v:=undef) 7 (some 17) rfl rfl ?_;refine pS (v:=undef) 8 (some 18) rfl rfl ?_;refine pS (v:=undef) 9 (some 19) rfl rfl ?_;refine pS (v:=undef) 10 (some 20) rfl rfl ?_;refine pS (v:=undef) 11 (some 21) rfl rfl ?_;refine pS (v:=undef) 12 (some 22) rfl rfl ?_;refine pU 13 (some 23) rfl rfl ?_;refine done_ (done_of HT_.out (by kernel_rfl)) ?_
   try go_wp2
   go_meet
   case rel=>exact ⟨_,(false),qy76,H',⟨qy80⟩,⟨qy33⟩⟩
 case rest=>
  clear HC5
  try clear c1
  try clear c2
  try clear p2
  try clear c6
  try clear c6b0
  try clear c6b1
  try clear c8
  try clear c8b0
  try clear c8b1
  try clear c9
  try clear c9b0
  try clear c9b1
  try clear c16
  try clear c17
  obtain ⟨kq,x23_4,rfl,HA,HJ4,HB⟩:=hcut
  cases kq with
  |zero=>exact absurd HA.out (by simp [spec_l3Goes.j0])
  |succ kj4=>
   have H:=HA.out;clear HA;simp only [spec_l3Goes.j0] at H;by_cases c19:x23_4=true
   ·subst c19;have H1:(some false)=some r:=by rw [if_pos rfl] at H;exact H
    clear H;have H:=H1;clear H1;obtain rfl:=Option.some.inj H
    go_wp2
    go_ret;exact ⟨qy68,qy33⟩
   ·replace c19:=Bool.eq_false_iff.mpr c19;subst c19;have H1:(if (l2.length:Int)=(l1.length:Int) then (some true) else (spec_l3Goes.l0 kj4 l0 l1 l2 a3))=some r:=by rw [if_neg (show ¬ (false=true) by decide)] at H;exact H
    clear H;have H:=H1;clear H1;by_cases c20:(l2.length:Int)=(l1.length:Int)
    ·rw [if_pos c20] at H;have c20b0:((l2.length:Int)==(l1.length:Int))=true:=beq_iff_eq.mpr c20;have c20b1:((l2.length:Int) != (l1.length:Int))=false:=bne_eq_false_iff_eq.mpr c20
     have c20b2:(l2.length==l1.length)=true:=by first|simpa using c20|(simp at c20 ⊢;omega)
     clear c20;obtain rfl:=Option.some.inj H
     go_wp2
     go_ret;exact ⟨qy68,qy33⟩
    ·rw [if_neg c20] at H;have c20b0:((l2.length:Int)==(l1.length:Int))=false:=beq_eq_false_iff_ne.mpr c20;have c20b1:((l2.length:Int) != (l1.length:Int))=true:=bne_iff_ne.mpr c20
     have c20b2:(l2.length==l1.length)=false:=by first|simpa using c20|(simp at c20 ⊢;omega)
     have H':=qA H;clear H
     go_wp2
     go_loopg [9] kj4 (fun kq v9 w'=>∃ (x9_2:Int),v9=.int .i64 x9_2∧Aside0 (spec_l3Goes.l0 kq l0 l1 l2 x9_2=some r)∧Aside0 (kq≤kj4)∧Aside0 (Below w.heap.size w w'))
     case atStart=>exact ⟨(a3),qy76,H',⟨Nat.le_refl _⟩,⟨qy33⟩⟩
     case round=>
      clear H'
      try clear c1
      try clear c2
      try clear p2
      try clear c6
      try clear c6b0
      try clear c6b1
      try clear c8
      try clear c8b0
      try clear c8b1
      try clear c9
      try clear c9b0
      try clear c9b1
      try clear c16
      try clear c17
      try clear c19
      try clear c20
      try clear c20b0
      try clear c20b1
      try clear c20b2
      try clear p2
      obtain ⟨x9_2,rfl,HA,HK2,HB⟩:=hrel
      cases gk with
      |zero=>exact absurd HA.out (by simp [spec_l3Goes.l0])
      |succ k2=>
       have H:=HA.out;clear HA;simp only [spec_l3Goes.l0] at H;by_cases c21:x9_2 < (l0.length:Int)
       ·rw [if_pos c21] at H;have c21b0:decide (x9_2 < (l0.length:Int))=true:=decide_eq_true c21;clear c21;replace H:=Option.bind_eq_some_iff.mp H;obtain ⟨t554,A220,H⟩:=H;replace H:(if 0≤x9_2 then ((some (([rd l0 x9_2]:List Int):List Int)).bind fun y558=>(if t554.length+y558.length < 17592186044416 then ((spec_l3Goes.f k2 l0 l1 (t554++y558) (wrap64 (x9_2+1))).bind fun t564=>(if t564=true then (some true) else (spec_l3Goes.l0 k2 l0 l1 l2 (wrap64 (x9_2+1))))) else (none))) else (none))=some r:=H;have A22:=qA A220;clear A220;by_cases c23:0≤x9_2
        ·rw [if_pos c23] at H;have c23b0:decide (0≤x9_2)=true:=decide_eq_true c23;clear c23
         obtain ⟨y558,hy558⟩:∃ y_:List Int,y_=(([rd l0 x9_2]:List Int)):=⟨_,rfl⟩
         replace H:(if t554.length+y558.length < 17592186044416 then ((spec_l3Goes.f k2 l0 l1 (t554++y558) (wrap64 (x9_2+1))).bind fun t564=>(if t564=true then (some true) else (spec_l3Goes.l0 k2 l0 l1 l2 (wrap64 (x9_2+1))))) else (none))=some r:=by first|(rw [hy558];with_reducible exact H)|(have H2_:=(Option.bind_some _ _).symm.trans H;rw [hy558];with_reducible exact H2_)|(have H2_:=(Option.bind_some _ _).symm.trans H;with_reducible exact H2_)|with_reducible exact H|(rw [hy558];exact H)|exact H
         have Ny558:=qA hy558;clear hy558;by_cases c24:t554.length+y558.length < 17592186044416
         ·rw [if_pos c24] at H;have LMc24:=qA c24;clear c24
          obtain ⟨y561,hy561⟩:∃ y_:List Int,y_=(t554++y558):=⟨_,rfl⟩
          replace H:((spec_l3Goes.f k2 l0 l1 y561 (wrap64 (x9_2+1))).bind fun t564=>(if t564=true then (some true) else (spec_l3Goes.l0 k2 l0 l1 l2 (wrap64 (x9_2+1)))))=some r:=by first|(rw [hy561];with_reducible exact H)|(have H2_:=(Option.bind_some _ _).symm.trans H;rw [hy561];with_reducible exact H2_)|(have H2_:=(Option.bind_some _ _).symm.trans H;with_reducible exact H2_)|with_reducible exact H|(rw [hy561];exact H)|exact H
          have Ny561:=qA hy561;clear hy561;replace H:=Option.bind_eq_some_iff.mp H;obtain ⟨t564,A250,H⟩:=H;replace H:(if t564=true then (some true) else (spec_l3Goes.l0 k2 l0 l1 l2 (wrap64 (x9_2+1))))=some r:=H;have A25:=qA A250;clear A250;by_cases c26:t564=true
          ·subst c26;have H1:(some true)=some r:=by rw [if_pos rfl] at H;exact H
           clear H;have H:=H1;clear H1;obtain rfl:=Option.some.inj H
           try go_wp2
           have n0_:=qA (below_drew1 HB.out);clear HB;have HB:=n0_;clear n0_;have p557:0≤(x9_2:Int):=of_decide_eq_true qy73;have q557:x9_2 < (l0.length:Int):=of_decide_eq_true qy73;obtain ⟨ad557,e557,hx557_0⟩:=Kd.at_int HR0.out x9_2 p557 q557;have hw557_0:=hx557_0;cases e557;replace hx557_0:=(HB.out.cell (World.block_lt_of_cell? w _ hx557_0)).trans hx557_0;replace p557:=eq_true p557;replace q557:=eq_true q557;refine start_ (n:=13) (S:=fun w'=>w'.cell? (ad557.add (x9_2).toNat)=some (.int .i64 (rd l0 x9_2))) (ds:=[]) #[false,false,false,false,false,false,false,false,false,false,false,false,false] (by kernel_rfl) rfl rfl (((HB.out.cell (World.block_lt_of_cell? w _ hw557_0)).trans hw557_0)) (fun hHeld=>?_);refine with_tabW spec_l3Goes.tab8 spec_l3Goes.bits8 (fun HT_ HW_=>?_);generalize wr.drew=w27 at HB hx557_0 hHeld ⊢;refine pU 0 (some 36) rfl rfl ?_;refine pU 1 (some 37) rfl rfl ?_;refine pU 2 (some 38) rfl rfl ?_;refine pU 4 (some 40) rfl rfl ?_;refine pU 5 (some 41) rfl rfl ?_;refine pU 6 (some 42) rfl rfl ?_;refine pU 10 (some 46) rfl rfl ?_;refine pU 11 (some 47) rfl rfl ?_;refine tK1 7 (some 43) rfl rfl ?_ hHeld;refine join_ (σ:=Value × Value) 2 #[true,true,true,true,true,true,true,true,true,false,true,true,false] (fun s_=>[(39,s_.1),(44,s_.2)]) (fun s_ w'=>(w'.cell? (ad557.add (x9_2).toNat)=some (.int .i64 (rd l0 x9_2)))∧(Kd.R (Kd.int .i64) 3 w' w.heap.size (fun k_=>some k_≠(s_.2:Value).ownBlock) s_.1 t554)∧(Kd.R (Kd.int .i64) 3 w' w.heap.size (fun k_=>some k_≠(s_.1:Value).ownBlock) s_.2 y558)∧(Below w.heap.size w w')) ?_ ?_;rotate_left
           ·intro hCont;refine two_ (i:=3) (j:=8) (Ni:=some 39) (Nj:=some 44) #[true,true,true,true,true,true,true,true,false,false,true,true,false] #[true,true,true,false,true,true,true,true,true,false,true,true,false] rfl rfl rfl rfl (two_of HT_.out (by kernel_rfl)) (by decide) (by decide) (fun K hK=>?_) (fun K hK=>?_)
            ·skip;refine goes_ Tryz.func140 (by kernel_rfl) rfl #[.slice A2 l2.length c2] (by rfl) rfl rfl qy29 ?_
             with_reducible refine (spec_l1Own.calls _ _ l2 t554 _ ?side1 ?side2 A22.out).mono ?_
             (case side1=>repeat (first|exact (Kd.C_below HR2.out HB.out)|(with_reducible refine Kd.C_alloc ?_ _)|(with_reducible refine Kd.C_drewN ?_ _)|(with_reducible refine Kd.C_drew ?_)))
             (case side2=>exact HC2.out)
             rintro e w28 ⟨v555,rfl,ho0,hb⟩;refine ⟨_,rfl,?_⟩;have n0_:=qA (Kd.R_lower ho0 (below_size qy33));have n1_:=qA (below_step qy33 hb);clear HB;have HO556:=n0_;have HB:=n1_;clear n0_ n1_
             (try clear hb)
             (try clear hb2)
             (try clear hk)
             (try clear hi)
             (try clear ho0)
             refine hK.out _ _ (((HB.out.cell (World.block_lt_of_cell? w _ hw557_0)).trans hw557_0)) (fun hHeld=>?_);clear hK K;refine norm_ (a':=?_) ?_ ?_;rotate_left
             ·show Act.put _ (some 39) _=_
              simp only [Act.put,List.setIfInBounds_toArray,List.set_cons_zero,List.set_cons_succ,i64_w,i32_w];rfl
             refine one_ (i:=8) (N:=some 44) #[true,true,true,true,true,true,true,true,true,false,true,true,false] rfl rfl (one_of HT_.out (by kernel_rfl)) (by decide) (fun K hK=>?_);refine Kd.R_lit_step (Kd.int .i64) _ 3 ?hg (N:=44) ?hd (xs:=([rd l0 x9_2]:List Int)) (inner:=[.int .i64 (rd l0 x9_2)]) (ok:=fun _=>True) (okp:=fun _=>True) ?hr ?hp (fun _ hk=>hk) trivial (Below.refl _ _) (Nat.le_refl _) (by simp) ?_;(case hd=>rfl);(case hg=>rfl);(case hr=>first|(go_simp;done)|(go_simp;rfl));(case hp=>exact (Reps.one (show Kd.M (Kd.int .i64) _ _ _ (rd l0 x9_2) [.int .i64 (rd l0 x9_2)] from rfl) (Reps.none _ _)));intro v559 w29 ho30 hb hg_ hnew_;clear hg_ hnew_
             (first|rw [← Ny558.out] at ho30|(simp only [Int.reduceToNat] at ho30;rw [← Ny558.out] at ho30))
             have n0_:=qA (Kd.R_elder' qy50 (Kd.R_base ho30) hb);have n1_:=qA (Kd.R_lower (Kd.R_new' ho30 (Kd.R_lt qy50)) (below_size qy33));have n2_:=qA (below_step qy33 hb);clear HO556;clear HB;have HO556:=n0_;have HO560:=n1_;have HB:=n2_;clear n0_ n1_ n2_;clear hb ho30;refine hK.out _ _ (((HB.out.cell (World.block_lt_of_cell? w _ hw557_0)).trans hw557_0)) (fun hHeld=>?_);clear hK K;refine norm_ (a':=?_) ?_ ?_;rotate_left
             ·show Act.put _ (some 44) _=_
              simp only [Act.put,List.setIfInBounds_toArray,List.set_cons_zero,List.set_cons_succ,i64_w,i32_w];rfl
             exact norm_ qy67 (hCont (v555,v559) _ ⟨hHeld,qy32,qy31,qy33⟩)
            ·skip;refine Kd.R_lit_step (Kd.int .i64) _ 3 ?hg (N:=44) ?hd (xs:=([rd l0 x9_2]:List Int)) (inner:=[.int .i64 (rd l0 x9_2)]) (ok:=fun _=>True) (okp:=fun _=>True) ?hr ?hp (fun _ hk=>hk) trivial (Below.refl _ _) (Nat.le_refl _) (by simp) ?_;(case hd=>rfl);(case hg=>rfl);(case hr=>first|(go_simp;done)|(go_simp;rfl));(case hp=>exact (Reps.one (show Kd.M (Kd.int .i64) _ _ _ (rd l0 x9_2) [.int .i64 (rd l0 x9_2)] from rfl) (Reps.none _ _)));intro v559 w28 ho29 hb hg_ hnew_;clear hg_ hnew_
             (first|rw [← Ny558.out] at ho29|(simp only [Int.reduceToNat] at ho29;rw [← Ny558.out] at ho29))
             have n0_:=qA (Kd.R_lower ho29 (below_size qy33));have n1_:=qA (below_step qy33 hb);clear HB;have HO560:=n0_;have HB:=n1_;clear n0_ n1_;clear hb ho29;refine hK.out _ _ (((HB.out.cell (World.block_lt_of_cell? w _ hw557_0)).trans hw557_0)) (fun hHeld=>?_);clear hK K;refine norm_ (a':=?_) ?_ ?_;rotate_left
             ·show Act.put _ (some 44) _=_
              simp only [Act.put,List.setIfInBounds_toArray,List.set_cons_zero,List.set_cons_succ,i64_w,i32_w];rfl
             refine one_ (i:=3) (N:=some 39) #[true,true,true,true,true,true,true,true,true,false,true,true,false] rfl rfl (one_of HT_.out (by kernel_rfl)) (by decide) (fun K hK=>?_);refine goes_ Tryz.func140 (by kernel_rfl) rfl #[.slice A2 l2.length c2] (by rfl) rfl rfl qy29 ?_
             with_reducible refine (spec_l1Own.calls _ _ l2 t554 _ ?side1 ?side2 A22.out).mono ?_
             (case side1=>repeat (first|exact (Kd.C_below HR2.out HB.out)|(with_reducible refine Kd.C_alloc ?_ _)|(with_reducible refine Kd.C_drewN ?_ _)|(with_reducible refine Kd.C_drew ?_)))
             (case side2=>exact HC2.out)
             rintro e w30 ⟨v555,rfl,ho0,hb⟩;refine ⟨_,rfl,?_⟩;have n0_:=qA (Kd.R_elder' qy49 (Kd.R_base ho0) hb);have n1_:=qA (Kd.R_lower (Kd.R_new' ho0 (Kd.R_lt qy49)) (below_size qy33));have n2_:=qA (below_step qy33 hb);clear HO560;clear HB;have HO560:=n0_;have HO556:=n1_;have HB:=n2_;clear n0_ n1_ n2_
             (try clear hb)
             (try clear hb2)
             (try clear hk)
             (try clear hi)
             (try clear ho0)
             refine hK.out _ _ (((HB.out.cell (World.block_lt_of_cell? w _ hw557_0)).trans hw557_0)) (fun hHeld=>?_);clear hK K;refine norm_ (a':=?_) ?_ ?_;rotate_left
             ·show Act.put _ (some 39) _=_
              simp only [Act.put,List.setIfInBounds_toArray,List.set_cons_zero,List.set_cons_succ,i64_w,i32_w];rfl
             exact norm_ qy67 (hCont (v555,v559) _ ⟨hHeld,qy32,qy31,qy33⟩)
           rintro ⟨v555,v559⟩ w31 ⟨hS_,h0_,h1_,h2_⟩
           have n0_:Aside0 (Kd.R (Kd.int .i64) 3 w31 w.heap.size (fun k_=>some k_≠(v559:Value).ownBlock) v555 t554):=⟨h0_⟩
           have n1_:Aside0 (Kd.R (Kd.int .i64) 3 w31 w.heap.size (fun k_=>some k_≠(v555:Value).ownBlock) v559 y558):=⟨h1_⟩
           have n2_:Aside0 (Below w.heap.size w w31):=⟨h2_⟩
           clear HB;clear h0_ h1_ h2_;have HO556:=n0_;have HO560:=n1_;have HB:=n2_;clear n0_ n1_ n2_;have hHeld:w31.cell? (ad557.add (x9_2).toNat)=some (.int .i64 (rd l0 x9_2)):=hS_;obtain ⟨Ao33,co33,eo33⟩:=Kd.R_slice HO560.out
           (first|subst eo33|(injection eo33 with f1_ f2_ f3_;have f4_:=f1_.symm;have f5_:=f3_.symm;clear f1_ f2_ f3_;subst f4_;subst f5_))
           refine norm_ (a':=?_) ?_ ?_;rotate_left
           ·simp only [putAll,Act.put,List.setIfInBounds_toArray,List.set_cons_zero,List.set_cons_succ];rfl
           refine one_ (i:=9) (N:=some 45) #[true,true,true,true,true,true,true,true,true,true,true,true,false] rfl rfl (one_of HT_.out (by kernel_rfl)) (by decide) (fun K hK=>?_);refine Kd.R_append_rows_step (Kd.int .i64) (w0:=w) w.heap.size (by rfl) (.tmp 39) (.tmp 44) 36 3 (.int .i64 0) 8 rfl Tryz.underlying36 info3 rfl (by decide) (by omega) v555 t554 y558 _ _ _ (fun k_=>some k_≠(.slice Ao33 y558.length co33:Value).ownBlock) (fun _=>False) rfl rfl ?aO ?aR (fun _ _ h=>h) (fun _ h=>h.elim) ?aF ?aB ?aS ?aL ?_
           (case aR=>repeat (first|exact (Kd.R_reads' HO560.out).2.2|(with_reducible refine Kd.C_alloc ?_ _)|(with_reducible refine Kd.C_drewN ?_ _)|(with_reducible refine Kd.C_drew ?_)))
           (case aB=>exact qy33)
           (case aF=>exact (fun k_ hk=>Kd.fresh' (Kd.R_lt qy49) k_ hk))
           (case aO=>exact qy50)
           (case aS=>exact (below_size qy33))
           (case aL=>have:=LMc24.out;omega)
           intro v562 w32 ho hb hg hat;rw [← Ny561.out] at ho;have n0_:=qA (Kd.R_after (ok:=(fun _=>True)) (by (with_reducible repeat (first|apply Kd.R_alloc|apply Kd.R_drewN|apply Kd.R_drew));exact Kd.R_mono HO560.out (fun _ hk=>⟨trivial,hk⟩)) hg hat);have n1_:=qA (hb);have n2_:=qA (ho);clear HO560;clear HB;clear HO556;have HO560:=n0_;have HB:=n1_;have HO563:=n2_;clear n0_ n1_ n2_;clear ho hb hg hat;obtain ⟨Ao34,co34,eo34⟩:=Kd.R_slice HO563.out
           (first|subst eo34|(injection eo34 with f1_ f2_ f3_;have f4_:=f1_.symm;have f5_:=f3_.symm;clear f1_ f2_ f3_;subst f4_;subst f5_))
           refine hK.out _ _ (((HB.out.cell (World.block_lt_of_cell? w _ hw557_0)).trans hw557_0)) (fun hHeld=>?_);clear hK K;refine norm_ (a':=?_) ?_ ?_;rotate_left
           ·show Act.put _ (some 45) _=_
            simp only [Act.put,List.setIfInBounds_toArray,List.set_cons_zero,List.set_cons_succ,i64_w,i32_w];rfl
           refine one_ (i:=12) (N:=some 48) #[true,true,true,true,true,true,true,true,true,true,true,true,true] rfl rfl (one_of HT_.out (by kernel_rfl)) (by decide) (fun K hK=>?_);refine goes_ Tryz.func165 (by kernel_rfl) rfl #[.slice (some ad557) l0.length c0,.slice A1 l1.length c1,.slice Ao34 y561.length co34,.int .i64 (wrap64 (x9_2+1))] (by rfl) rfl rfl qy29 ?_
           with_reducible refine (ih k2 qy79 _ _ l0 _ _ l1 _ _ y561 (wrap64 (x9_2+1)) true _ ?side1 ?side2 ?side3 ?side4 ?side5 ?side6 A25.out).mono ?_
           (case side1=>repeat (first|exact (Kd.C_below HR0.out HB.out)|(with_reducible refine Kd.C_alloc ?_ _)|(with_reducible refine Kd.C_drewN ?_ _)|(with_reducible refine Kd.C_drew ?_)))
           (case side2=>exact HC0.out)
           (case side3=>repeat (first|exact (Kd.C_below HR1.out HB.out)|(with_reducible refine Kd.C_alloc ?_ _)|(with_reducible refine Kd.C_drewN ?_ _)|(with_reducible refine Kd.C_drew ?_)))
           (case side4=>exact HC1.out)
           (case side5=>repeat (first|exact (Kd.R_reads' HO563.out).2.2|(with_reducible refine Kd.C_alloc ?_ _)|(with_reducible refine Kd.C_drewN ?_ _)|(with_reducible refine Kd.C_drew ?_)))
           (case side6=>exact (Kd.R_reads' HO563.out).2.1)
           rintro e w35 ⟨rfl,hb⟩;refine ⟨_,rfl,?_⟩;have n0_:=qA (Kd.R_below qy49 hb);have n1_:=qA (Kd.R_below (by (with_reducible repeat (first|apply Kd.R_alloc|apply Kd.R_drewN|apply Kd.R_drew));exact HO563.out) hb);have n2_:=qA (below_step qy33 hb);clear HO560;clear HO563;clear HB;have HO560:=n0_;have HO563:=n1_;have HB:=n2_;clear n0_ n1_ n2_
           (try clear hb)
           (try clear hb2)
           (try clear hk)
           (try clear hi)
           refine hK.out _ _ (((HB.out.cell (World.block_lt_of_cell? w _ hw557_0)).trans hw557_0)) (fun hHeld=>?_);clear hK K;refine norm_ (a':=?_) ?_ ?_;rotate_left
           ·show Act.put _ (some 48) _=_
            simp only [Act.put,List.setIfInBounds_toArray,List.set_cons_zero,List.set_cons_succ,i64_w,i32_w];rfl
           refine done_ (done_of HT_.out (by kernel_rfl)) ?_
           try go_wp2
           go_ret;exact ⟨qy68,qy33⟩
          ·replace c26:=Bool.eq_false_iff.mpr c26;subst c26;have H1:(spec_l3Goes.l0 k2 l0 l1 l2 (wrap64 (x9_2+1)))=some r:=by rw [if_neg (show ¬ (false=true) by decide)] at H;exact H
           clear H;have H:=H1;clear H1;have H':=qA H;clear H
           try go_wp2
           have n0_:=qA (below_drew1 HB.out);clear HB;have HB:=n0_;clear n0_;have p557:0≤(x9_2:Int):=of_decide_eq_true qy73;have q557:x9_2 < (l0.length:Int):=of_decide_eq_true qy73;obtain ⟨ad557,e557,hx557_0⟩:=Kd.at_int HR0.out x9_2 p557 q557;have hw557_0:=hx557_0;cases e557;replace hx557_0:=(HB.out.cell (World.block_lt_of_cell? w _ hx557_0)).trans hx557_0;replace p557:=eq_true p557;replace q557:=eq_true q557;refine start_ (n:=13) (S:=fun w'=>w'.cell? (ad557.add (x9_2).toNat)=some (.int .i64 (rd l0 x9_2))) (ds:=[]) #[false,false,false,false,false,false,false,false,false,false,false,false,false] (by kernel_rfl) rfl rfl (((HB.out.cell (World.block_lt_of_cell? w _ hw557_0)).trans hw557_0)) (fun hHeld=>?_);refine with_tabW spec_l3Goes.tab8 spec_l3Goes.bits8 (fun HT_ HW_=>?_);generalize wr.drew=w36 at HB hx557_0 hHeld ⊢;refine pU 0 (some 36) rfl rfl ?_;refine pU 1 (some 37) rfl rfl ?_;refine pU 2 (some 38) rfl rfl ?_;refine pU 4 (some 40) rfl rfl ?_;refine pU 5 (some 41) rfl rfl ?_;refine pU 6 (some 42) rfl rfl ?_;refine pU 10 (some 46) rfl rfl ?_;refine pU 11 (some 47) rfl rfl ?_;refine tK1 7 (some 43) rfl rfl ?_ hHeld;refine join_ (σ:=Value × Value) 2 #[true,true,true,true,true,true,true,true,true,false,true,true,false] (fun s_=>[(39,s_.1),(44,s_.2)]) (fun s_ w'=>(w'.cell? (ad557.add (x9_2).toNat)=some (.int .i64 (rd l0 x9_2)))∧(Kd.R (Kd.int .i64) 3 w' w.heap.size (fun k_=>some k_≠(s_.2:Value).ownBlock) s_.1 t554)∧(Kd.R (Kd.int .i64) 3 w' w.heap.size (fun k_=>some k_≠(s_.1:Value).ownBlock) s_.2 y558)∧(Below w.heap.size w w')) ?_ ?_;rotate_left
           ·intro hCont;refine two_ (i:=3) (j:=8) (Ni:=some 39) (Nj:=some 44) #[true,true,true,true,true,true,true,true,false,false,true,true,false] #[true,true,true,false,true,true,true,true,true,false,true,true,false] rfl rfl rfl rfl (two_of HT_.out (by kernel_rfl)) (by decide) (by decide) (fun K hK=>?_) (fun K hK=>?_)
            ·skip;refine goes_ Tryz.func140 (by kernel_rfl) rfl #[.slice A2 l2.length c2] (by rfl) rfl rfl qy29 ?_
             with_reducible refine (spec_l1Own.calls _ _ l2 t554 _ ?side1 ?side2 A22.out).mono ?_
             (case side1=>repeat (first|exact (Kd.C_below HR2.out HB.out)|(with_reducible refine Kd.C_alloc ?_ _)|(with_reducible refine Kd.C_drewN ?_ _)|(with_reducible refine Kd.C_drew ?_)))
             (case side2=>exact HC2.out)
             rintro e w37 ⟨v555,rfl,ho0,hb⟩;refine ⟨_,rfl,?_⟩;have n0_:=qA (Kd.R_lower ho0 (below_size qy33));have n1_:=qA (below_step qy33 hb);clear HB;have HO556:=n0_;have HB:=n1_;clear n0_ n1_
             (try clear hb)
             (try clear hb2)
             (try clear hk)
             (try clear hi)
             (try clear ho0)
             refine hK.out _ _ (((HB.out.cell (World.block_lt_of_cell? w _ hw557_0)).trans hw557_0)) (fun hHeld=>?_);clear hK K;refine norm_ (a':=?_) ?_ ?_;rotate_left
             ·show Act.put _ (some 39) _=_
              simp only [Act.put,List.setIfInBounds_toArray,List.set_cons_zero,List.set_cons_succ,i64_w,i32_w];rfl
             refine one_ (i:=8) (N:=some 44) #[true,true,true,true,true,true,true,true,true,false,true,true,false] rfl rfl (one_of HT_.out (by kernel_rfl)) (by decide) (fun K hK=>?_);refine Kd.R_lit_step (Kd.int .i64) _ 3 ?hg (N:=44) ?hd (xs:=([rd l0 x9_2]:List Int)) (inner:=[.int .i64 (rd l0 x9_2)]) (ok:=fun _=>True) (okp:=fun _=>True) ?hr ?hp (fun _ hk=>hk) trivial (Below.refl _ _) (Nat.le_refl _) (by simp) ?_;(case hd=>rfl);(case hg=>rfl);(case hr=>first|(go_simp;done)|(go_simp;rfl));(case hp=>exact (Reps.one (show Kd.M (Kd.int .i64) _ _ _ (rd l0 x9_2) [.int .i64 (rd l0 x9_2)] from rfl) (Reps.none _ _)));intro v559 w38 ho39 hb hg_ hnew_;clear hg_ hnew_
             (first|rw [← Ny558.out] at ho39|(simp only [Int.reduceToNat] at ho39;rw [← Ny558.out] at ho39))
             have n0_:=qA (Kd.R_elder' qy50 (Kd.R_base ho39) hb);have n1_:=qA (Kd.R_lower (Kd.R_new' ho39 (Kd.R_lt qy50)) (below_size qy33));have n2_:=qA (below_step qy33 hb);clear HO556;clear HB;have HO556:=n0_;have HO560:=n1_;have HB:=n2_;clear n0_ n1_ n2_;clear hb ho39;refine hK.out _ _ (((HB.out.cell (World.block_lt_of_cell? w _ hw557_0)).trans hw557_0)) (fun hHeld=>?_);clear hK K;refine norm_ (a':=?_) ?_ ?_;rotate_left
             ·show Act.put _ (some 44) _=_
              simp only [Act.put,List.setIfInBounds_toArray,List.set_cons_zero,List.set_cons_succ,i64_w,i32_w];rfl
             exact norm_ qy67 (hCont (v555,v559) _ ⟨hHeld,qy32,qy31,qy33⟩)
            ·skip;refine Kd.R_lit_step (Kd.int .i64) _ 3 ?hg (N:=44) ?hd (xs:=([rd l0 x9_2]:List Int)) (inner:=[.int .i64 (rd l0 x9_2)]) (ok:=fun _=>True) (okp:=fun _=>True) ?hr ?hp (fun _ hk=>hk) trivial (Below.refl _ _) (Nat.le_refl _) (by simp) ?_;(case hd=>rfl);(case hg=>rfl);(case hr=>first|(go_simp;done)|(go_simp;rfl));(case hp=>exact (Reps.one (show Kd.M (Kd.int .i64) _ _ _ (rd l0 x9_2) [.int .i64 (rd l0 x9_2)] from rfl) (Reps.none _ _)));intro v559 w37 ho38 hb hg_ hnew_;clear hg_ hnew_
             (first|rw [← Ny558.out] at ho38|(simp only [Int.reduceToNat] at ho38;rw [← Ny558.out] at ho38))
             have n0_:=qA (Kd.R_lower ho38 (below_size qy33));have n1_:=qA (below_step qy33 hb);clear HB;have HO560:=n0_;have HB:=n1_;clear n0_ n1_;clear hb ho38;refine hK.out _ _ (((HB.out.cell (World.block_lt_of_cell? w _ hw557_0)).trans hw557_0)) (fun hHeld=>?_);clear hK K;refine norm_ (a':=?_) ?_ ?_;rotate_left
             ·show Act.put _ (some 44) _=_
              simp only [Act.put,List.setIfInBounds_toArray,List.set_cons_zero,List.set_cons_succ,i64_w,i32_w];rfl
             refine one_ (i:=3) (N:=some 39) #[true,true,true,true,true,true,true,true,true,false,true,true,false] rfl rfl (one_of HT_.out (by kernel_rfl)) (by decide) (fun K hK=>?_);refine goes_ Tryz.func140 (by kernel_rfl) rfl #[.slice A2 l2.length c2] (by rfl) rfl rfl qy29 ?_
             with_reducible refine (spec_l1Own.calls _ _ l2 t554 _ ?side1 ?side2 A22.out).mono ?_
             (case side1=>repeat (first|exact (Kd.C_below HR2.out HB.out)|(with_reducible refine Kd.C_alloc ?_ _)|(with_reducible refine Kd.C_drewN ?_ _)|(with_reducible refine Kd.C_drew ?_)))
             (case side2=>exact HC2.out)
             rintro e w39 ⟨v555,rfl,ho0,hb⟩;refine ⟨_,rfl,?_⟩;have n0_:=qA (Kd.R_elder' qy49 (Kd.R_base ho0) hb);have n1_:=qA (Kd.R_lower (Kd.R_new' ho0 (Kd.R_lt qy49)) (below_size qy33));have n2_:=qA (below_step qy33 hb);clear HO560;clear HB;have HO560:=n0_;have HO556:=n1_;have HB:=n2_;clear n0_ n1_ n2_
             (try clear hb)
             (try clear hb2)
             (try clear hk)
             (try clear hi)
             (try clear ho0)
             refine hK.out _ _ (((HB.out.cell (World.block_lt_of_cell? w _ hw557_0)).trans hw557_0)) (fun hHeld=>?_);clear hK K;refine norm_ (a':=?_) ?_ ?_;rotate_left
             ·show Act.put _ (some 39) _=_
              simp only [Act.put,List.setIfInBounds_toArray,List.set_cons_zero,List.set_cons_succ,i64_w,i32_w];rfl
             exact norm_ qy67 (hCont (v555,v559) _ ⟨hHeld,qy32,qy31,qy33⟩)
           rintro ⟨v555,v559⟩ w40 ⟨hS_,h0_,h1_,h2_⟩
           have n0_:Aside0 (Kd.R (Kd.int .i64) 3 w40 w.heap.size (fun k_=>some k_≠(v559:Value).ownBlock) v555 t554):=⟨h0_⟩
           have n1_:Aside0 (Kd.R (Kd.int .i64) 3 w40 w.heap.size (fun k_=>some k_≠(v555:Value).ownBlock) v559 y558):=⟨h1_⟩
           have n2_:Aside0 (Below w.heap.size w w40):=⟨h2_⟩
           clear HB;clear h0_ h1_ h2_;have HO556:=n0_;have HO560:=n1_;have HB:=n2_;clear n0_ n1_ n2_;have hHeld:w40.cell? (ad557.add (x9_2).toNat)=some (.int .i64 (rd l0 x9_2)):=hS_;obtain ⟨Ao42,co42,eo42⟩:=Kd.R_slice HO560.out
           (first|subst eo42|(injection eo42 with f1_ f2_ f3_;have f4_:=f1_.symm;have f5_:=f3_.symm;clear f1_ f2_ f3_;subst f4_;subst f5_))
           refine norm_ (a':=?_) ?_ ?_;rotate_left
           ·simp only [putAll,Act.put,List.setIfInBounds_toArray,List.set_cons_zero,List.set_cons_succ];rfl
           refine one_ (i:=9) (N:=some 45) #[true,true,true,true,true,true,true,true,true,true,true,true,false] rfl rfl (one_of HT_.out (by kernel_rfl)) (by decide) (fun K hK=>?_);refine Kd.R_append_rows_step (Kd.int .i64) (w0:=w) w.heap.size (by rfl) (.tmp 39) (.tmp 44) 36 3 (.int .i64 0) 8 rfl Tryz.underlying36 info3 rfl (by decide) (by omega) v555 t554 y558 _ _ _ (fun k_=>some k_≠(.slice Ao42 y558.length co42:Value).ownBlock) (fun _=>False) rfl rfl ?aO ?aR (fun _ _ h=>h) (fun _ h=>h.elim) ?aF ?aB ?aS ?aL ?_
           (case aR=>repeat (first|exact (Kd.R_reads' HO560.out).2.2|(with_reducible refine Kd.C_alloc ?_ _)|(with_reducible refine Kd.C_drewN ?_ _)|(with_reducible refine Kd.C_drew ?_)))
           (case aB=>exact qy33)
           (case aF=>exact (fun k_ hk=>Kd.fresh' (Kd.R_lt qy49) k_ hk))
           (case aO=>exact qy50)
           (case aS=>exact (below_size qy33))
           (case aL=>have:=LMc24.out;omega)
           intro v562 w41 ho hb hg hat;rw [← Ny561.out] at ho;have n0_:=qA (Kd.R_after (ok:=(fun _=>True)) (by (with_reducible repeat (first|apply Kd.R_alloc|apply Kd.R_drewN|apply Kd.R_drew));exact Kd.R_mono HO560.out (fun _ hk=>⟨trivial,hk⟩)) hg hat);have n1_:=qA (hb);have n2_:=qA (ho);clear HO560;clear HB;clear HO556;have HO560:=n0_;have HB:=n1_;have HO563:=n2_;clear n0_ n1_ n2_;clear ho hb hg hat;obtain ⟨Ao43,co43,eo43⟩:=Kd.R_slice HO563.out
           (first|subst eo43|(injection eo43 with f1_ f2_ f3_;have f4_:=f1_.symm;have f5_:=f3_.symm;clear f1_ f2_ f3_;subst f4_;subst f5_))
           refine hK.out _ _ (((HB.out.cell (World.block_lt_of_cell? w _ hw557_0)).trans hw557_0)) (fun hHeld=>?_);clear hK K;refine norm_ (a':=?_) ?_ ?_;rotate_left
           ·show Act.put _ (some 45) _=_
            simp only [Act.put,List.setIfInBounds_toArray,List.set_cons_zero,List.set_cons_succ,i64_w,i32_w];rfl
           refine one_ (i:=12) (N:=some 48) #[true,true,true,true,true,true,true,true,true,true,true,true,true] rfl rfl (one_of HT_.out (by kernel_rfl)) (by decide) (fun K hK=>?_);refine goes_ Tryz.func165 (by kernel_rfl) rfl #[.slice (some ad557) l0.length c0,.slice A1 l1.length c1,.slice Ao43 y561.length co43,.int .i64 (wrap64 (x9_2+1))] (by rfl) rfl rfl qy29 ?_
           with_reducible refine (ih k2 qy79 _ _ l0 _ _ l1 _ _ y561 (wrap64 (x9_2+1)) false _ ?side1 ?side2 ?side3 ?side4 ?side5 ?side6 A25.out).mono ?_
           (case side1=>repeat (first|exact (Kd.C_below HR0.out HB.out)|(with_reducible refine Kd.C_alloc ?_ _)|(with_reducible refine Kd.C_drewN ?_ _)|(with_reducible refine Kd.C_drew ?_)))
           (case side2=>exact HC0.out)
           (case side3=>repeat (first|exact (Kd.C_below HR1.out HB.out)|(with_reducible refine Kd.C_alloc ?_ _)|(with_reducible refine Kd.C_drewN ?_ _)|(with_reducible refine Kd.C_drew ?_)))
           (case side4=>exact HC1.out)
           (case side5=>repeat (first|exact (Kd.R_reads' HO563.out).2.2|(with_reducible refine Kd.C_alloc ?_ _)|(with_reducible refine Kd.C_drewN ?_ _)|(with_reducible refine Kd.C_drew ?_)))
           (case side6=>exact (Kd.R_reads' HO563.out).2.1)
           rintro e w44 ⟨rfl,hb⟩;refine ⟨_,rfl,?_⟩;have n0_:=qA (Kd.R_below qy49 hb);have n1_:=qA (Kd.R_below (by (with_reducible repeat (first|apply Kd.R_alloc|apply Kd.R_drewN|apply Kd.R_drew));exact HO563.out) hb);have n2_:=qA (below_step qy33 hb);clear HO560;clear HO563;clear HB;have HO560:=n0_;have HO563:=n1_;have HB:=n2_;clear n0_ n1_ n2_
           (try clear hb)
           (try clear hb2)
           (try clear hk)
           (try clear hi)
           refine hK.out _ _ (((HB.out.cell (World.block_lt_of_cell? w _ hw557_0)).trans hw557_0)) (fun hHeld=>?_);clear hK K;refine norm_ (a':=?_) ?_ ?_;rotate_left
           ·show Act.put _ (some 48) _=_
            simp only [Act.put,List.setIfInBounds_toArray,List.set_cons_zero,List.set_cons_succ,i64_w,i32_w];rfl
           refine done_ (done_of HT_.out (by kernel_rfl)) ?_
           try go_wp2
           go_roundg k2
           case measure=>have:=HJ4.out;have:=HK2.out;omega
           case rel=>exact ⟨(wrap64 (x9_2+1)),qy76,H',⟨qy79⟩,⟨qy33⟩⟩
         ·rw [if_neg c24] at H;exact absurd H (by simp)
        ·rw [if_neg c23] at H;exact absurd H (by simp)
       ·rw [if_neg c21] at H;have c21b0:decide (x9_2 < (l0.length:Int))=false:=decide_eq_false c21;clear c21;obtain rfl:=Option.some.inj H
        go_wp2
        go_ret;exact ⟨qy68,qy33⟩

end Go.Proofs.YtaoecbpfocillaaGreat.Xdz
