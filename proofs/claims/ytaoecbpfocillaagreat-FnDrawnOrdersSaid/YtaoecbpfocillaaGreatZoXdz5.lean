-- Written by this session's own program (xprint.py) over the kit's print.py: functions, contracts and rows of the laws of one seat.
import Derived.Test.YtaoecbpfocillaaGreatZoXdz0
namespace Go.Proofs.YtaoecbpfocillaaGreat.Xdz
open Go.RowKit Go.Proofs.YtaoecbpfocillaaGreatW.PrintWords Go.Proofs.YtaoecbpfocillaaGreatW.PrintLast Go.Proofs.YtaoecbpfocillaaGreatW.PrintMore
attribute [local go_sem] max2_int min2_int max_two min_two max_three min_three max_four min_four -- for this text's walks alone
set_option linter.unusedVariables false
set_option linter.unusedSimpArgs false

/-! ### impl_inversions: function 60 -/
mutual
def impl_inversions.l0:Nat→List Int→Int→List Int→Int→Int→Option (Int)
 |0,_,_,_,_,_=>none
 |k+1,x0,x3,x8,x9,x10=>if x10 < x9 then (if 0≤x10 then (if x10 < (x8.length:Int) then (if x10≤(x0.length:Int) then (impl_inversions.l1 k x0 x3 (rd x8 x10) x8 x9 x10 (x0.take (x10:Int).toNat) ((x0.take (x10:Int).toNat).length:Int) 0) else (none)) else (none)) else (none)) else (some x3)
def impl_inversions.l1:Nat→List Int→Int→Int→List Int→Int→Int→List Int→Int→Int→Option (Int)
 |0,_,_,_,_,_,_,_,_,_=>none
 |k+1,x0,x3,x5,x8,x9,x10,x17,x18,x19=>if x19 < x18 then (if 0≤x19 then (if x19 < (x17.length:Int) then (if (rd x17 x19) > x5 then (impl_inversions.l1 k x0 (wrap64 (x3+1)) x5 x8 x9 x10 x17 x18 (wrap64 (x19+1))) else (impl_inversions.l1 k x0 x3 x5 x8 x9 x10 x17 x18 (wrap64 (x19+1)))) else (none)) else (none)) else (impl_inversions.l0 k x0 x3 x8 x9 (wrap64 (x10+1)))
end
def impl_inversions.f (k:Nat) (l0:List Int):Option (Int):=impl_inversions.l0 k l0 0 l0 (l0.length:Int) 0
set_option maxHeartbeats 8000000 in
set_option maxRecDepth 100000 in
theorem impl_inversions.calls (k:Nat) (A0:Option Addr) (c0:Nat) (l0:List Int) (r:Int) (w:World) (hr0:Kd.C (Kd.int .i64) w A0 l0.length l0) (hc0:l0.length≤c0) (h:impl_inversions.f k l0=some r):
  Calls Tryz.prog 60 #[.slice A0 l0.length c0] w fun e w'=>e=.returned (.int .i64 r)∧Drawn0 w w':=by
 have HR0:=qA hr0;have HC0:=qA hc0;clear hr0 hc0;have H:(impl_inversions.l0 k l0 0 l0 (l0.length:Int) 0)=some r:=h;clear h;have H':=qA H;clear H;go_enter Tryz.func60,Tryz.ntmps60
 go_wp2
 go_loopg [3,10] k (fun kq v3 v10 w'=>∃ (x3_1:Int) (x10_1:Int),v3=.int .i64 x3_1∧v10=.int .i64 x10_1∧Aside0 (impl_inversions.l0 kq l0 x3_1 l0 (l0.length:Int) x10_1=some r)∧Aside0 (kq≤k)∧Drawn0 w w')
 case atStart=>exact ⟨(0),(0),qy76,qy76,H',⟨Nat.le_refl _⟩,qy71⟩
 case round=>
  clear H';obtain ⟨x3_1,x10_1,rfl,rfl,HA,HK1,⟨m1,rfl⟩⟩:=hrel
  cases gk with
  |zero=>exact absurd HA.out (by simp [impl_inversions.l0])
  |succ k1=>
   have H:=HA.out;clear HA;simp only [impl_inversions.l0] at H;by_cases c2:x10_1 < (l0.length:Int)
   ·rw [if_pos c2] at H;have c2b0:decide (x10_1 < (l0.length:Int))=true:=decide_eq_true c2;clear c2;by_cases c3:0≤x10_1
    ·rw [if_pos c3] at H;have c3b0:decide (0≤x10_1)=true:=decide_eq_true c3;clear c3;by_cases c4:x10_1 < (l0.length:Int)
     ·rw [if_pos c4] at H;have c4b0:decide (x10_1 < (l0.length:Int))=true:=decide_eq_true c4;clear c4;have c5b0:=eq_true (of_decide_eq_true qy73:0≤x10_1);by_cases c6:x10_1≤(l0.length:Int)
      ·rw [if_pos c6] at H;have c6b0:=eq_true c6;have c6b1:decide (x10_1≤(l0.length:Int))=true:=decide_eq_true c6;clear c6;have H':=qA H;clear H;have p165:0≤(x10_1:Int):=of_decide_eq_true qy73;have q165:x10_1 < (l0.length:Int):=of_decide_eq_true qy73;obtain ⟨ad165,e165,hx165_0⟩:=Kd.at_int HR0.out x10_1 p165 q165;cases e165;replace p165:=eq_true p165;replace q165:=eq_true q165;obtain ⟨i07,hi07,_,hsz7,_⟩:=info_parts info3;obtain ⟨hcut7,hA7,hC7⟩:=print_take_of (P:=Tryz.prog) (Value.int .i64) 0 36 3 .i64 Tryz.underlying36 hi07 hsz7 (some ad165) c0 l0 x10_1 (of_decide_eq_true qy73) (of_decide_eq_true qy73) HC0.out;have HR166:=qA (Kd.C_of_reads (h1:=fun _=>rfl) (hA7 _ (Kd.reads_of_C HR0.out)));have HC166:=qA hC7;clear hA7 hC7 hi07 hsz7
       obtain ⟨lt_hcut7,hlt_hcut7⟩:∃ q_:List Int,q_=(l0.take (x10_1:Int).toNat):=⟨_,rfl⟩
       rw [← hlt_hcut7] at hcut7 H' HR166 HC166;have Hlt_hcut7:=qA hlt_hcut7;clear hlt_hcut7
       go_wp2
       go_loopg [3,19] k1 (fun kq v3 v19 w'=>∃ (x3_2:Int) (x19_2:Int),v3=.int .i64 x3_2∧v19=.int .i64 x19_2∧Aside0 (impl_inversions.l1 kq l0 x3_2 (rd l0 x10_1) l0 (l0.length:Int) x10_1 lt_hcut7 (lt_hcut7.length:Int) x19_2=some r)∧Aside0 (kq≤k1)∧Drawn0 w w')
       case atStart=>exact ⟨(x3_1),(0),qy76,qy76,H',⟨Nat.le_refl _⟩,qy71⟩
       case round=>
        clear H'
        try clear p1
        try clear q1
        try clear hx1
        try clear c2
        try clear c2b0
        try clear p2
        try clear c3
        try clear c3b0
        try clear c4
        try clear c4b0
        try clear c5
        try clear c5b0
        try clear c6
        try clear c6b0
        try clear c6b1
        try clear hx165_0
        try clear p165
        try clear q165
        obtain ⟨x3_2,x19_2,rfl,rfl,HA,HK2,⟨m2,rfl⟩⟩:=hrel
        cases gk with
        |zero=>exact absurd HA.out (by simp [impl_inversions.l1])
        |succ k2=>
         have H:=HA.out;clear HA;simp only [impl_inversions.l1] at H;by_cases c8:x19_2 < (lt_hcut7.length:Int)
         ·rw [if_pos c8] at H;have c8b0:decide (x19_2 < (lt_hcut7.length:Int))=true:=decide_eq_true c8;clear c8;by_cases c9:0≤x19_2
          ·rw [if_pos c9] at H;have c9b0:decide (0≤x19_2)=true:=decide_eq_true c9;clear c9;by_cases c10:x19_2 < (lt_hcut7.length:Int)
           ·rw [if_pos c10] at H;have c10b0:decide (x19_2 < (lt_hcut7.length:Int))=true:=decide_eq_true c10;clear c10;by_cases c11:(rd lt_hcut7 x19_2) > (rd l0 x10_1)
            ·rw [if_pos c11] at H;have c11b0:decide ((rd l0 x10_1) < (rd lt_hcut7 x19_2))=true:=decide_eq_true c11;clear c11;have H':=qA H;clear H;have p167:0≤(x19_2:Int):=of_decide_eq_true qy73;have q167:x19_2 < (lt_hcut7.length:Int):=of_decide_eq_true qy73;obtain ⟨ad167,e167,hx167_0⟩:=Kd.at_int HR166.out x19_2 p167 q167
             obtain rfl:ad165=ad167:=(by injection e167)
             replace p167:=eq_true p167;replace q167:=eq_true q167
             go_wp2
             go_roundg k2
             case measure=>have:=HK1.out;have:=HK2.out;omega
             case rel=>exact ⟨(wrap64 (x3_2+1)),(wrap64 (x19_2+1)),qy76,qy76,H',⟨qy78⟩,qy71⟩
            ·rw [if_neg c11] at H;have c11b0:decide ((rd l0 x10_1) < (rd lt_hcut7 x19_2))=false:=decide_eq_false c11;clear c11;have H':=qA H;clear H;have p167:0≤(x19_2:Int):=of_decide_eq_true qy73;have q167:x19_2 < (lt_hcut7.length:Int):=of_decide_eq_true qy73;obtain ⟨ad167,e167,hx167_0⟩:=Kd.at_int HR166.out x19_2 p167 q167
             obtain rfl:ad165=ad167:=(by injection e167)
             replace p167:=eq_true p167;replace q167:=eq_true q167
             go_wp2
             go_roundg k2
             case measure=>have:=HK1.out;have:=HK2.out;omega
             case rel=>exact ⟨(x3_2),(wrap64 (x19_2+1)),qy76,qy76,H',⟨qy78⟩,qy71⟩
           ·rw [if_neg c10] at H;exact absurd H (by simp)
          ·rw [if_neg c9] at H;exact absurd H (by simp)
         ·rw [if_neg c8] at H;have c8b0:decide (x19_2 < (lt_hcut7.length:Int))=false:=decide_eq_false c8;clear c8;have H':=qA H;clear H
          go_wp2
          go_roundg k2
          case measure=>have:=HK1.out;have:=HK2.out;omega
          case rel=>exact ⟨(x3_2),(wrap64 (x10_1+1)),qy76,qy76,H',⟨qy78⟩,qy71⟩
      ·rw [if_neg c6] at H;exact absurd H (by simp)
     ·rw [if_neg c4] at H;exact absurd H (by simp)
    ·rw [if_neg c3] at H;exact absurd H (by simp)
   ·rw [if_neg c2] at H;have c2b0:decide (x10_1 < (l0.length:Int))=false:=decide_eq_false c2;clear c2;obtain rfl:=Option.some.inj H
    go_wp2
    go_ret;exact ⟨qy76,qy71⟩

/-! ### impl_isDrawn: function 64 -/
def impl_isDrawn.f (a0:Int):Option (Bool):=if a0≥1 then (some (decide (a0≤6))) else (some false)
set_option maxHeartbeats 8000000 in
set_option maxRecDepth 100000 in
theorem impl_isDrawn.calls (a0:Int) (r:Bool) (w:World) (h:impl_isDrawn.f a0=some r):
  Calls Tryz.prog 64 #[.int .i64 a0] w fun e w'=>e=.returned (.bool r)∧Drawn0 w w':=by
 have H:(if a0≥1 then (some (decide (a0≤6))) else (some false))=some r:=h;clear h;by_cases c2:a0≥1
 ·rw [if_pos c2] at H;have c2b0:decide (1≤a0)=true:=decide_eq_true c2;clear c2;obtain rfl:=Option.some.inj H;go_enter Tryz.func64,Tryz.ntmps64
  go_wp2
  go_ret;exact ⟨qy76,qy71⟩
 ·rw [if_neg c2] at H;have c2b0:decide (1≤a0)=false:=decide_eq_false c2;clear c2;obtain rfl:=Option.some.inj H;go_enter Tryz.func64,Tryz.ntmps64
  go_wp2
  go_ret;exact ⟨qy76,qy71⟩

/-! ### impl_isSize: function 75 -/
def impl_isSize.f (a0:Int):Option (Bool):=if a0≥1 then (some (decide (a0≤7))) else (some false)
set_option maxHeartbeats 8000000 in
set_option maxRecDepth 100000 in
theorem impl_isSize.calls (a0:Int) (r:Bool) (w:World) (h:impl_isSize.f a0=some r):
  Calls Tryz.prog 75 #[.int .i64 a0] w fun e w'=>e=.returned (.bool r)∧Drawn0 w w':=by
 have H:(if a0≥1 then (some (decide (a0≤7))) else (some false))=some r:=h;clear h;by_cases c2:a0≥1
 ·rw [if_pos c2] at H;have c2b0:decide (1≤a0)=true:=decide_eq_true c2;clear c2;obtain rfl:=Option.some.inj H;go_enter Tryz.func75,Tryz.ntmps75
  go_wp2
  go_ret;exact ⟨qy76,qy71⟩
 ·rw [if_neg c2] at H;have c2b0:decide (1≤a0)=false:=decide_eq_false c2;clear c2;obtain rfl:=Option.some.inj H;go_enter Tryz.func75,Tryz.ntmps75
  go_wp2
  go_ret;exact ⟨qy76,qy71⟩

/-! ### slices_Index_int_int: function 150 -/
def slices_Index_int_int.l0:Nat→List Int→Int→Int→Int→Option (Int)
 |0,_,_,_,_=>none
 |k+1,x0,x1,x7,x8=>if x8 < x7 then (if 0≤x8 then (if x8 < (x0.length:Int) then (if x1=(rd x0 x8) then (some x8) else (slices_Index_int_int.l0 k x0 x1 x7 (wrap64 (x8+1)))) else (none)) else (none)) else (some (-1))
def slices_Index_int_int.f (k:Nat) (l0:List Int) (a1:Int):Option (Int):=slices_Index_int_int.l0 k l0 a1 (l0.length:Int) 0
set_option maxHeartbeats 8000000 in
set_option maxRecDepth 100000 in
theorem slices_Index_int_int.calls (k:Nat) (A0:Option Addr) (c0:Nat) (l0:List Int) (a1:Int) (r:Int) (w:World) (hr0:Kd.C (Kd.int .i64) w A0 l0.length l0) (hc0:l0.length≤c0) (h:slices_Index_int_int.f k l0 a1=some r):
  Calls Tryz.prog 150 #[.slice A0 l0.length c0,.int .i64 a1] w fun e w'=>e=.returned (.int .i64 r)∧Drawn0 w w':=by
 have HR0:=qA hr0;have HC0:=qA hc0;clear hr0 hc0;have H:(slices_Index_int_int.l0 k l0 a1 (l0.length:Int) 0)=some r:=h;clear h;have H':=qA H;clear H;go_enter Tryz.func150,Tryz.ntmps150
 go_wp2
 go_loopg [8] k (fun kq v8 w'=>∃ (x8_1:Int),v8=.int .i64 x8_1∧Aside0 (slices_Index_int_int.l0 kq l0 a1 (l0.length:Int) x8_1=some r)∧Aside0 (kq≤k)∧Drawn0 w w')
 case atStart=>exact ⟨(0),qy76,H',⟨Nat.le_refl _⟩,qy71⟩
 case round=>
  clear H'
  try clear c1
  try clear p2
  obtain ⟨x8_1,rfl,HA,HK1,⟨m1,rfl⟩⟩:=hrel
  cases gk with
  |zero=>exact absurd HA.out (by simp [slices_Index_int_int.l0])
  |succ k1=>
   have H:=HA.out;clear HA;simp only [slices_Index_int_int.l0] at H;by_cases c3:x8_1 < (l0.length:Int)
   ·rw [if_pos c3] at H;have c3b0:decide (x8_1 < (l0.length:Int))=true:=decide_eq_true c3;clear c3;by_cases c4:0≤x8_1
    ·rw [if_pos c4] at H;have c4b0:decide (0≤x8_1)=true:=decide_eq_true c4;clear c4;by_cases c5:x8_1 < (l0.length:Int)
     ·rw [if_pos c5] at H;have c5b0:decide (x8_1 < (l0.length:Int))=true:=decide_eq_true c5;clear c5;by_cases c6:a1=(rd l0 x8_1)
      ·rw [if_pos c6] at H;have c6b0:(a1==(rd l0 x8_1))=true:=beq_iff_eq.mpr c6;have c6b1:(a1 != (rd l0 x8_1))=false:=bne_eq_false_iff_eq.mpr c6;clear c6;obtain rfl:=Option.some.inj H;have p168:0≤(x8_1:Int):=of_decide_eq_true qy73;have q168:x8_1 < (l0.length:Int):=of_decide_eq_true qy73;obtain ⟨ad168,e168,hx168_0⟩:=Kd.at_int HR0.out x8_1 p168 q168;cases e168;replace p168:=eq_true p168;replace q168:=eq_true q168
       go_wp2
       go_ret;exact ⟨qy76,qy71⟩
      ·rw [if_neg c6] at H;have c6b0:(a1==(rd l0 x8_1))=false:=beq_eq_false_iff_ne.mpr c6;have c6b1:(a1 != (rd l0 x8_1))=true:=bne_iff_ne.mpr c6;have H':=qA H;clear H;have p168:0≤(x8_1:Int):=of_decide_eq_true qy73;have q168:x8_1 < (l0.length:Int):=of_decide_eq_true qy73;obtain ⟨ad168,e168,hx168_0⟩:=Kd.at_int HR0.out x8_1 p168 q168;cases e168;replace p168:=eq_true p168;replace q168:=eq_true q168
       go_wp2
       go_roundg k1
       case measure=>have:=HK1.out;omega
       case rel=>exact ⟨(wrap64 (x8_1+1)),qy76,H',⟨qy81⟩,qy71⟩
     ·rw [if_neg c5] at H;exact absurd H (by simp)
    ·rw [if_neg c4] at H;exact absurd H (by simp)
   ·rw [if_neg c3] at H;have c3b0:decide (x8_1 < (l0.length:Int))=false:=decide_eq_false c3;clear c3;obtain rfl:=Option.some.inj H
    go_wp2
    go_ret;exact ⟨qy76,qy71⟩

/-! ### slices_Contains_int_int: function 131 -/
def slices_Contains_int_int.f (k:Nat) (l0:List Int) (a1:Int):Option (Bool):=(slices_Index_int_int.f k l0 a1).bind fun t169=>(some (decide (t169≥0)))
set_option maxHeartbeats 8000000 in
set_option maxRecDepth 100000 in
theorem slices_Contains_int_int.calls (k:Nat) (A0:Option Addr) (c0:Nat) (l0:List Int) (a1:Int) (r:Bool) (w:World) (hr0:Kd.C (Kd.int .i64) w A0 l0.length l0) (hc0:l0.length≤c0) (h:slices_Contains_int_int.f k l0 a1=some r):
  Calls Tryz.prog 131 #[.slice A0 l0.length c0,.int .i64 a1] w fun e w'=>e=.returned (.bool r)∧Drawn0 w w':=by
 have HR0:=qA hr0;have HC0:=qA hc0;clear hr0 hc0;have H:((slices_Index_int_int.f k l0 a1).bind fun t169=>(some (decide (t169≥0))))=some r:=h;clear h;replace H:=Option.bind_eq_some_iff.mp H;obtain ⟨t169,A30,H⟩:=H;replace H:(some (decide (t169≥0)))=some r:=H;have A3:=qA A30;clear A30;obtain rfl:=Option.some.inj H;go_enter Tryz.func131,Tryz.ntmps131
 go_wp2_with (first|((with_reducible refine gate_callee (f:=150) rfl ?_);refine goesL_ (some 7) rfl rfl Tryz.func150 (by kernel_rfl) rfl #[.slice A0 l0.length c0,.int .i64 a1] rfl qy29 ?_;(with_reducible refine (slices_Index_int_int.calls k _ _ l0 a1 t169 _ ?side1 ?side2 A3.out).mono ?_);(case side1=>repeat (first|exact HR0.out|(with_reducible refine Kd.C_alloc ?_ _)|(with_reducible refine Kd.C_drewN ?_ _)|(with_reducible refine Kd.C_drew ?_)));(case side2=>exact HC0.out);rintro e w' ⟨rfl,⟨nd,rfl⟩⟩;refine ⟨_,rfl,?_⟩))
 go_ret;exact ⟨qy76,qy71⟩

/-! ### impl_isOrder: function 79 -/
mutual
def impl_isOrder.j0:Nat→List Int→Bool→Option (Bool)
 |0,_,_=>none
 |k+1,x0,x12=>if x12=true then (some false) else (impl_isOrder.l0 k x0 x0 (x0.length:Int) 0)
def impl_isOrder.l0:Nat→List Int→List Int→Int→Int→Option (Bool)
 |0,_,_,_,_=>none
 |k+1,x0,x13,x14,x15=>if x15 < x14 then (if 0≤x15 then (if x15 < (x13.length:Int) then (if (rd x13 x15) < 1 then (some false) else (if (rd x13 x15) > (x0.length:Int) then (some false) else (if x15≤(x0.length:Int) then ((slices_Contains_int_int.f k (x0.take (x15:Int).toNat) (rd x13 x15)).bind fun t172=>(if t172=true then (some false) else (impl_isOrder.l0 k x0 x13 x14 (wrap64 (x15+1))))) else (none)))) else (none)) else (none)) else (some true)
end
def impl_isOrder.f (k:Nat) (l0:List Int):Option (Bool):=if (l0.length:Int) < 1 then (impl_isOrder.j0 k l0 true) else (impl_isOrder.j0 k l0 (decide ((l0.length:Int) > 7)))
set_option maxHeartbeats 8000000 in
set_option maxRecDepth 100000 in
theorem impl_isOrder.calls (k:Nat) (A0:Option Addr) (c0:Nat) (l0:List Int) (r:Bool) (w:World) (hr0:Kd.C (Kd.int .i64) w A0 l0.length l0) (hc0:l0.length≤c0) (h:impl_isOrder.f k l0=some r):
  Calls Tryz.prog 79 #[.slice A0 l0.length c0] w fun e w'=>e=.returned (.bool r)∧Drawn0 w w':=by
 have HR0:=qA hr0;have HC0:=qA hc0;clear hr0 hc0;have H:(if (l0.length:Int) < 1 then (impl_isOrder.j0 k l0 true) else (impl_isOrder.j0 k l0 (decide ((l0.length:Int) > 7))))=some r:=h;clear h;have HC2:=qA H;clear H;go_enter Tryz.func79,Tryz.ntmps79
 go_upto_region 1 with (fail)
 go_cut [12] (fun v12 wc=>∃ (kq:Nat) (x12_1:Bool),v12=.bool x12_1∧Aside0 (impl_isOrder.j0 kq l0 x12_1=some r)∧Aside0 (kq≤k)∧Drawn0 w wc)
 case first=>
  have H:=HC2.out;clear HC2;by_cases c3:(l0.length:Int) < 1
  ·rw [if_pos c3] at H;have c3b0:decide ((l0.length:Int) < 1)=true:=decide_eq_true c3;have c3b1:decide (l0.length < 1)=true:=decide_eq_true (by omega);clear c3
   (first|rw [c3b0]|(simp only [i64_w,i32_w];rw [c3b0])|skip)
   have H':=qA H;clear H
   go_wp2
   go_meet
   case rel=>exact ⟨_,(true),qy76,H',⟨qy80⟩,qy71⟩
  ·rw [if_neg c3] at H;have c3b0:decide ((l0.length:Int) < 1)=false:=decide_eq_false c3;have c3b1:decide (l0.length < 1)=false:=decide_eq_false (by omega);clear c3
   (first|rw [c3b0]|(simp only [i64_w,i32_w];rw [c3b0])|skip)
   have H':=qA H;clear H
   go_wp2
   go_meet
   case rel=>exact ⟨_,(decide ((l0.length:Int) > 7)),qy76,H',⟨qy80⟩,qy71⟩
 case rest=>
  clear HC2
  try clear p2
  try clear c3
  try clear c3b0
  try clear c3b1
  obtain ⟨kq,x12_1,rfl,HA,HJ1,⟨mc1,rfl⟩⟩:=hcut
  cases kq with
  |zero=>exact absurd HA.out (by simp [impl_isOrder.j0])
  |succ kj1=>
   have H:=HA.out;clear HA;simp only [impl_isOrder.j0] at H;by_cases c4:x12_1=true
   ·subst c4;have H1:(some false)=some r:=by rw [if_pos rfl] at H;exact H
    clear H;have H:=H1;clear H1;obtain rfl:=Option.some.inj H
    go_wp2
    go_ret;exact ⟨qy76,qy71⟩
   ·replace c4:=Bool.eq_false_iff.mpr c4;subst c4;have H1:(impl_isOrder.l0 kj1 l0 l0 (l0.length:Int) 0)=some r:=by rw [if_neg (show ¬ (false=true) by decide)] at H;exact H
    clear H;have H:=H1;clear H1;have H':=qA H;clear H
    go_wp2
    go_loopg [15] kj1 (fun kq v15 w'=>∃ (x15_2:Int),v15=.int .i64 x15_2∧Aside0 (impl_isOrder.l0 kq l0 l0 (l0.length:Int) x15_2=some r)∧Aside0 (kq≤kj1)∧Drawn0 w w')
    case atStart=>exact ⟨(0),qy76,H',⟨Nat.le_refl _⟩,qy71⟩
    case round=>
     clear H'
     try clear c1
     try clear p2
     try clear c3
     try clear c3b0
     try clear c3b1
     try clear c4
     try clear p2
     obtain ⟨x15_2,rfl,HA,HK2,⟨m2,rfl⟩⟩:=hrel
     cases gk with
     |zero=>exact absurd HA.out (by simp [impl_isOrder.l0])
     |succ k2=>
      have H:=HA.out;clear HA;simp only [impl_isOrder.l0] at H;by_cases c5:x15_2 < (l0.length:Int)
      ·rw [if_pos c5] at H;have c5b0:decide (x15_2 < (l0.length:Int))=true:=decide_eq_true c5;clear c5;by_cases c6:0≤x15_2
       ·rw [if_pos c6] at H;have c6b0:decide (0≤x15_2)=true:=decide_eq_true c6;clear c6;by_cases c7:x15_2 < (l0.length:Int)
        ·rw [if_pos c7] at H;have c7b0:decide (x15_2 < (l0.length:Int))=true:=decide_eq_true c7;clear c7;by_cases c8:(rd l0 x15_2) < 1
         ·rw [if_pos c8] at H;have c8b0:decide ((rd l0 x15_2) < 1)=true:=decide_eq_true c8;clear c8;obtain rfl:=Option.some.inj H;have p170:0≤(x15_2:Int):=of_decide_eq_true qy73;have q170:x15_2 < (l0.length:Int):=of_decide_eq_true qy73;obtain ⟨ad170,e170,hx170_0⟩:=Kd.at_int HR0.out x15_2 p170 q170;cases e170;replace p170:=eq_true p170;replace q170:=eq_true q170
          go_wp2
          go_ret;exact ⟨qy76,qy71⟩
         ·rw [if_neg c8] at H;have c8b0:decide ((rd l0 x15_2) < 1)=false:=decide_eq_false c8;clear c8;by_cases c9:(rd l0 x15_2) > (l0.length:Int)
          ·rw [if_pos c9] at H;have c9b0:decide ((l0.length:Int) < (rd l0 x15_2))=true:=decide_eq_true c9;clear c9;obtain rfl:=Option.some.inj H;have p170:0≤(x15_2:Int):=of_decide_eq_true qy73;have q170:x15_2 < (l0.length:Int):=of_decide_eq_true qy73;obtain ⟨ad170,e170,hx170_0⟩:=Kd.at_int HR0.out x15_2 p170 q170;cases e170;replace p170:=eq_true p170;replace q170:=eq_true q170
           go_wp2
           go_ret;exact ⟨qy76,qy71⟩
          ·rw [if_neg c9] at H;have c9b0:decide ((l0.length:Int) < (rd l0 x15_2))=false:=decide_eq_false c9;clear c9;have c10b0:=eq_true (of_decide_eq_true qy73:0≤x15_2);by_cases c11:x15_2≤(l0.length:Int)
           ·rw [if_pos c11] at H;have c11b0:=eq_true c11;have c11b1:decide (x15_2≤(l0.length:Int))=true:=decide_eq_true c11;clear c11;replace H:=Option.bind_eq_some_iff.mp H;obtain ⟨t172,A120,H⟩:=H;replace H:(if t172=true then (some false) else (impl_isOrder.l0 k2 l0 l0 (l0.length:Int) (wrap64 (x15_2+1))))=some r:=H;have A12:=qA A120;clear A120;by_cases c13:t172=true
            ·subst c13;have H1:(some false)=some r:=by rw [if_pos rfl] at H;exact H
             clear H;have H:=H1;clear H1;obtain rfl:=Option.some.inj H;have p170:0≤(x15_2:Int):=of_decide_eq_true qy73;have q170:x15_2 < (l0.length:Int):=of_decide_eq_true qy73;obtain ⟨ad170,e170,hx170_0⟩:=Kd.at_int HR0.out x15_2 p170 q170;cases e170;replace p170:=eq_true p170;replace q170:=eq_true q170;obtain ⟨i014,hi014,_,hsz14,_⟩:=info_parts info3;obtain ⟨hcut14,hA14,hC14⟩:=print_take_of (P:=Tryz.prog) (Value.int .i64) 0 36 3 .i64 Tryz.underlying36 hi014 hsz14 (some ad170) c0 l0 x15_2 (of_decide_eq_true qy73) (of_decide_eq_true qy73) HC0.out;have HR171:=qA (Kd.C_of_reads (h1:=fun _=>rfl) (hA14 _ (Kd.reads_of_C HR0.out)));have HC171:=qA hC14;clear hA14 hC14 hi014 hsz14;have HLT0:=qA (show (x15_2:Int).toNat=(l0.take (x15_2:Int).toNat).length by have h1_:x15_2≤(l0.length:Int):=of_decide_eq_true qy73;rw [List.length_take];omega)
             go_wp2_with (first|(go_at_call 131;rw [HLT0.out];(with_reducible refine (slices_Contains_int_int.calls k2 _ _ (l0.take (x15_2:Int).toNat) (rd l0 x15_2) true _ ?side1 ?side2 A12.out).mono ?_);(case side1=>repeat (first|exact HR171.out|(with_reducible refine Kd.C_alloc ?_ _)|(with_reducible refine Kd.C_drewN ?_ _)|(with_reducible refine Kd.C_drew ?_)));(case side2=>exact HC171.out);rintro e w' ⟨rfl,⟨nd,rfl⟩⟩))
             go_ret;exact ⟨qy76,qy71⟩
            ·replace c13:=Bool.eq_false_iff.mpr c13;subst c13;have H1:(impl_isOrder.l0 k2 l0 l0 (l0.length:Int) (wrap64 (x15_2+1)))=some r:=by rw [if_neg (show ¬ (false=true) by decide)] at H;exact H
             clear H;have H:=H1;clear H1;have H':=qA H;clear H;have p170:0≤(x15_2:Int):=of_decide_eq_true qy73;have q170:x15_2 < (l0.length:Int):=of_decide_eq_true qy73;obtain ⟨ad170,e170,hx170_0⟩:=Kd.at_int HR0.out x15_2 p170 q170;cases e170;replace p170:=eq_true p170;replace q170:=eq_true q170;obtain ⟨i015,hi015,_,hsz15,_⟩:=info_parts info3;obtain ⟨hcut15,hA15,hC15⟩:=print_take_of (P:=Tryz.prog) (Value.int .i64) 0 36 3 .i64 Tryz.underlying36 hi015 hsz15 (some ad170) c0 l0 x15_2 (of_decide_eq_true qy73) (of_decide_eq_true qy73) HC0.out;have HR171:=qA (Kd.C_of_reads (h1:=fun _=>rfl) (hA15 _ (Kd.reads_of_C HR0.out)));have HC171:=qA hC15;clear hA15 hC15 hi015 hsz15;have HLT0:=qA (show (x15_2:Int).toNat=(l0.take (x15_2:Int).toNat).length by have h1_:x15_2≤(l0.length:Int):=of_decide_eq_true qy73;rw [List.length_take];omega)
             go_wp2_with (first|(go_at_call 131;rw [HLT0.out];(with_reducible refine (slices_Contains_int_int.calls k2 _ _ (l0.take (x15_2:Int).toNat) (rd l0 x15_2) false _ ?side1 ?side2 A12.out).mono ?_);(case side1=>repeat (first|exact HR171.out|(with_reducible refine Kd.C_alloc ?_ _)|(with_reducible refine Kd.C_drewN ?_ _)|(with_reducible refine Kd.C_drew ?_)));(case side2=>exact HC171.out);rintro e w' ⟨rfl,⟨nd,rfl⟩⟩))
             go_roundg k2
             case measure=>have:=HJ1.out;have:=HK2.out;omega
             case rel=>exact ⟨(wrap64 (x15_2+1)),qy76,H',⟨(by have:=HJ1.out;have:=HK2.out;omega)⟩,qy71⟩
           ·rw [if_neg c11] at H;exact absurd H (by simp)
        ·rw [if_neg c7] at H;exact absurd H (by simp)
       ·rw [if_neg c6] at H;exact absurd H (by simp)
      ·rw [if_neg c5] at H;have c5b0:decide (x15_2 < (l0.length:Int))=false:=decide_eq_false c5;clear c5;obtain rfl:=Option.some.inj H
       go_wp2
       go_ret;exact ⟨qy76,qy71⟩

/-! ### impl_at: function 111 -/
def impl_at.l0:Nat→List Int→List Int→List Int→Int→Int→Option (List Int)
 |0,_,_,_,_,_=>none
 |k+1,x0,x5,x9,x10,x11=>if x11 < x10 then (if 0≤x11 then (if x11 < (x9.length:Int) then (if 0≤(rd x9 x11) then (if (rd x9 x11) < (x0.length:Int) then (if x5.length < 17592186044416 then (impl_at.l0 k x0 (x5++[rd x0 (rd x9 x11)]) x9 x10 (wrap64 (x11+1))) else (none)) else (none)) else (none)) else (none)) else (none)) else (some x5)
def impl_at.f (k:Nat) (l0:List Int) (l1:List Int):Option (List Int):=impl_at.l0 k l0 (([]:List Int)) l1 (l1.length:Int) 0
theorem impl_at.mono_l:∀ k,(∀ y0 y1 y2 y3 y4,LeO (impl_at.l0 k y0 y1 y2 y3 y4) (impl_at.l0 (k+1) y0 y1 y2 y3 y4))
 |0=>fun _ _ _ _ _ r h=>by simp [impl_at.l0] at h
 |k+1=>by
  have ih0:=impl_at.mono_l k
  ·intro y0 y1 y2 y3 y4;unfold impl_at.l0
   repeat' first
   |(with_reducible exact ih0 _ _ _ _ _)
   |(with_reducible exact LeO.refl _)
   |(with_reducible exact LeO.none _)
   |(with_reducible refine LeO.ite ?_ ?_)
   |(with_reducible refine LeO.bind ?_ (fun _=>?_))
   |exact ih0 _ _ _ _ _
   |exact LeO.none _
   |refine LeO.ite ?_ ?_
   |refine LeO.bind ?_ (fun _=>?_)
theorem impl_at.mono:∀ a0 a1 k,LeO (impl_at.f k a0 a1) (impl_at.f (k+1) a0 a1):=by
 intro a0 a1 k;have ih0:=impl_at.mono_l k;unfold impl_at.f
 repeat' first
   |(with_reducible exact ih0 _ _ _ _ _)
   |(with_reducible exact LeO.refl _)
   |(with_reducible exact LeO.none _)
   |(with_reducible refine LeO.ite ?_ ?_)
   |(with_reducible refine LeO.bind ?_ (fun _=>?_))
   |exact ih0 _ _ _ _ _
   |exact LeO.none _
   |refine LeO.ite ?_ ?_
   |refine LeO.bind ?_ (fun _=>?_)
set_option maxHeartbeats 8000000 in
set_option maxRecDepth 100000 in
theorem impl_at.calls (k:Nat) (A0:Option Addr) (c0:Nat) (l0:List Int) (A1:Option Addr) (c1:Nat) (l1:List Int) (r:List Int) (w:World) (hr0:Kd.C (Kd.int .i64) w A0 l0.length l0) (hc0:l0.length≤c0) (hr1:Kd.C (Kd.int .i64) w A1 l1.length l1) (hc1:l1.length≤c1) (h:impl_at.f k l0 l1=some r):
  Calls Tryz.prog 111 #[.slice A0 l0.length c0,.slice A1 l1.length c1] w fun e w'=>∃ v0_:Value,e=.returned (v0_)∧Kd.R (Kd.int .i64) 3 w' w.heap.size (fun _=>True) v0_ r∧Below w.heap.size w w':=by
 have HR0:=qA hr0;have HC0:=qA hc0;clear hr0 hc0;have HR1:=qA hr1;have HC1:=qA hc1;clear hr1 hc1;have HB:=qA (Below.refl w.heap.size w);have H:(impl_at.l0 k l0 (([]:List Int)) l1 (l1.length:Int) 0)=some r:=h;clear h
 obtain ⟨y173,hy173⟩:∃ y_:List Int,y_=(([]:List Int)):=⟨_,rfl⟩
 replace H:(impl_at.l0 k l0 y173 l1 (l1.length:Int) 0)=some r:=by first|(rw [hy173];with_reducible exact H)|(have H2_:=(Option.bind_some _ _).symm.trans H;rw [hy173];with_reducible exact H2_)|(have H2_:=(Option.bind_some _ _).symm.trans H;with_reducible exact H2_)|with_reducible exact H|(rw [hy173];exact H)|exact H
 have Ny173:=qA hy173;clear hy173;have H':=qA H;clear H;go_enter Tryz.func111,Tryz.ntmps111
 go_wp2_with (first|((with_reducible refine gate_dst (N:=8) rfl ?_);refine Kd.R_lit (Kd.int .i64) _ 3 ?hg (N:=8) ?hd (xs:=([]:List Int)) (inner:=[]) (ok:=fun _=>True) (okp:=fun _=>True) ?hr ?hp (fun _ hk=>hk) trivial (Below.refl _ _) (Nat.le_refl _) (by simp) ?_;(case hd=>rfl);(case hg=>rfl);(case hr=>first|(go_simp;done)|(go_simp;rfl));(case hp=>exact (Reps.none _ _));intro v174 w3 ho4 hb hg_ hnew_;clear hg_ hnew_;(first|rw [← Ny173.out] at ho4|(simp only [Int.reduceToNat] at ho4;rw [← Ny173.out] at ho4));have n0_:=qA (Kd.R_lower ho4 (below_size qy33));have n1_:=qA (below_step qy33 hb);clear HB;have HO175:=n0_;have HB:=n1_;clear n0_ n1_;clear hb ho4))
 go_loopg [5,11] k (fun kq v5 v11 w'=>∃ (x5_1:List Int) (x11_1:Int),v11=.int .i64 x11_1∧Aside0 (impl_at.l0 kq l0 x5_1 l1 (l1.length:Int) x11_1=some r)∧Aside0 (kq≤k)∧Aside0 (Kd.R (Kd.int .i64) 3 w' w.heap.size (fun _=>True) v5 x5_1)∧Aside0 (Below w.heap.size w w'))
 case atStart=>exact ⟨(y173),(0),qy76,H',⟨Nat.le_refl _⟩,⟨(by (with_reducible repeat (first|apply Kd.R_alloc|apply Kd.R_drewN|apply Kd.R_drew));exact HO175.out)⟩,⟨qy33⟩⟩
 case round=>
  clear H'
  try clear c1
  try clear p2
  obtain ⟨x5_1,x11_1,rfl,HA,HK1,HO_5,HB⟩:=hrel
  cases gk with
  |zero=>exact absurd HA.out (by simp [impl_at.l0])
  |succ k1=>
   have H:=HA.out;clear HA;simp only [impl_at.l0] at H;by_cases c5:x11_1 < (l1.length:Int)
   ·rw [if_pos c5] at H;have c5b0:decide (x11_1 < (l1.length:Int))=true:=decide_eq_true c5;clear c5;by_cases c6:0≤x11_1
    ·rw [if_pos c6] at H;have c6b0:decide (0≤x11_1)=true:=decide_eq_true c6;clear c6;by_cases c7:x11_1 < (l1.length:Int)
     ·rw [if_pos c7] at H;have c7b0:decide (x11_1 < (l1.length:Int))=true:=decide_eq_true c7;clear c7;by_cases c8:0≤(rd l1 x11_1)
      ·rw [if_pos c8] at H;have c8b0:decide (0≤(rd l1 x11_1))=true:=decide_eq_true c8;clear c8;by_cases c9:(rd l1 x11_1) < (l0.length:Int)
       ·rw [if_pos c9] at H;have c9b0:decide ((rd l1 x11_1) < (l0.length:Int))=true:=decide_eq_true c9;clear c9;by_cases c10:x5_1.length < 17592186044416
        ·rw [if_pos c10] at H;have LMc10:=qA c10;clear c10
         obtain ⟨y178,hy178⟩:∃ y_:List Int,y_=(x5_1++[rd l0 (rd l1 x11_1)]):=⟨_,rfl⟩
         replace H:(impl_at.l0 k1 l0 y178 l1 (l1.length:Int) (wrap64 (x11_1+1)))=some r:=by first|(rw [hy178];with_reducible exact H)|(have H2_:=(Option.bind_some _ _).symm.trans H;rw [hy178];with_reducible exact H2_)|(have H2_:=(Option.bind_some _ _).symm.trans H;with_reducible exact H2_)|with_reducible exact H|(rw [hy178];exact H)|exact H
         have Ny178:=qA hy178;clear hy178;have H':=qA H;clear H;have p176:0≤(x11_1:Int):=of_decide_eq_true qy73;have q176:x11_1 < (l1.length:Int):=of_decide_eq_true qy73;obtain ⟨ad176,e176,hx176_0⟩:=Kd.at_int HR1.out x11_1 p176 q176;cases e176;replace hx176_0:=(HB.out.cell (World.block_lt_of_cell? w _ hx176_0)).trans hx176_0;replace p176:=eq_true p176;replace q176:=eq_true q176;have p177:0≤((rd l1 x11_1):Int):=of_decide_eq_true qy73;have q177:(rd l1 x11_1) < (l0.length:Int):=of_decide_eq_true qy73;obtain ⟨ad177,e177,hx177_0⟩:=Kd.at_int HR0.out (rd l1 x11_1) p177 q177;cases e177;replace hx177_0:=(HB.out.cell (World.block_lt_of_cell? w _ hx177_0)).trans hx177_0;replace p177:=eq_true p177;replace q177:=eq_true q177
         go_wp2_with (first|((with_reducible refine gate_builtin (b:=.append) (xs:= #[.tmp 15,.tmp 20]) rfl ?_);at_builtin;refine Kd.R_append (Kd.int .i64) (w0:=w) w.heap.size rfl (.tmp 15) (.tmp 20) 36 3 (.int .i64 0) 8 rfl Tryz.underlying36 info3 rfl (by decide) (by omega) u5 x5_1 (rd l0 (rd l1 x11_1)) [.int .i64 (rd l0 (rd l1 x11_1))] (fun _=>True) (fun _=>False) rfl rfl ?aP (fun _ hk=>hk.elim) ?aF ?aO ?aB ?aS ?aL ?_;(case aP=>exact rfl);(case aB=>exact qy33);(case aF=>exact (fun _ _=>trivial));(case aO=>exact qy62);(case aS=>exact (below_size qy33));(case aL=>have:=LMc10.out;omega);intro v179 w11 ho hb hg hat;rw [← Ny178.out] at ho;have n0_:=qA (hb);have n1_:=qA (ho);clear HB;clear HO_5;have HB:=n0_;have HO180:=n1_;clear n0_ n1_;clear ho hb hg hat))
         go_roundg k1
         case measure=>have:=HK1.out;omega
         case rel=>exact ⟨(y178),(wrap64 (x11_1+1)),qy76,H',⟨qy81⟩,⟨(by (with_reducible repeat (first|apply Kd.R_alloc|apply Kd.R_drewN|apply Kd.R_drew));exact HO180.out)⟩,⟨qy33⟩⟩
        ·rw [if_neg c10] at H;exact absurd H (by simp)
       ·rw [if_neg c9] at H;exact absurd H (by simp)
      ·rw [if_neg c8] at H;exact absurd H (by simp)
     ·rw [if_neg c7] at H;exact absurd H (by simp)
    ·rw [if_neg c6] at H;exact absurd H (by simp)
   ·rw [if_neg c5] at H;have c5b0:decide (x11_1 < (l1.length:Int))=false:=decide_eq_false c5;clear c5;obtain rfl:=Option.some.inj H
    go_wp2
    go_ret;exact ⟨_,qy68,qy62,qy33⟩

end Go.Proofs.YtaoecbpfocillaaGreat.Xdz
