-- Written by this session's own program (xprint.py) over the kit's print.py: functions, contracts and rows of the laws of one seat.
import Derived.Test.YtaoecbpfocillaaGreatZoXdz0
import Derived.Test.YtaoecbpfocillaaGreatZoXdz2
namespace Go.Proofs.YtaoecbpfocillaaGreat.Xdz
open Go.RowKit Go.Proofs.YtaoecbpfocillaaGreatW.PrintWords Go.Proofs.YtaoecbpfocillaaGreatW.PrintLast Go.Proofs.YtaoecbpfocillaaGreatW.PrintMore
attribute [local go_sem] max2_int min2_int max_two min_two max_three min_three max_four min_four -- for this text's walks alone
set_option linter.unusedVariables false
set_option linter.unusedSimpArgs false

/-! ### cmp_Compare_int: function 144 -/
def cmp_Compare_int.f (a0:Int) (a1:Int):Option (Int):=(cmp_isNaN_int.f a0).bind fun t181=>((cmp_isNaN_int.f a1).bind fun t182=>(if t181=true then (if t182=true then (some 0) else (some (-1))) else (if t182=true then (some 1) else (if a0 < a1 then (some (-1)) else (if a0 > a1 then (some 1) else (some 0))))))
set_option maxHeartbeats 8000000 in
set_option maxRecDepth 100000 in
theorem cmp_Compare_int.calls (a0:Int) (a1:Int) (r:Int) (w:World) (h:cmp_Compare_int.f a0 a1=some r):
  Calls Tryz.prog 144 #[.int .i64 a0,.int .i64 a1] w fun e w'=>e=.returned (.int .i64 r)∧Drawn0 w w':=by
 have H:((cmp_isNaN_int.f a0).bind fun t181=>((cmp_isNaN_int.f a1).bind fun t182=>(if t181=true then (if t182=true then (some 0) else (some (-1))) else (if t182=true then (some 1) else (if a0 < a1 then (some (-1)) else (if a0 > a1 then (some 1) else (some 0)))))))=some r:=h;clear h;replace H:=Option.bind_eq_some_iff.mp H;obtain ⟨t181,A30,H⟩:=H;replace H:((cmp_isNaN_int.f a1).bind fun t182=>(if t181=true then (if t182=true then (some 0) else (some (-1))) else (if t182=true then (some 1) else (if a0 < a1 then (some (-1)) else (if a0 > a1 then (some 1) else (some 0))))))=some r:=H;have A3:=qA A30;clear A30;replace H:=Option.bind_eq_some_iff.mp H;obtain ⟨t182,A40,H⟩:=H;replace H:(if t181=true then (if t182=true then (some 0) else (some (-1))) else (if t182=true then (some 1) else (if a0 < a1 then (some (-1)) else (if a0 > a1 then (some 1) else (some 0)))))=some r:=H;have A4:=qA A40;clear A40;by_cases c5:t181=true
 ·subst c5;have H1:(if t182=true then (some 0) else (some (-1)))=some r:=by rw [if_pos rfl] at H;exact H
  clear H;have H:=H1;clear H1;by_cases c6:t182=true
  ·subst c6;have H1:(some 0)=some r:=by rw [if_pos rfl] at H;exact H
   clear H;have H:=H1;clear H1;obtain rfl:=Option.some.inj H;go_enter Tryz.func144,Tryz.ntmps144
   go_wp2_with (first|((with_reducible refine gate_callee (f:=161) rfl ?_);refine goesL_ (some 8) rfl rfl Tryz.func161 (by kernel_rfl) rfl #[.int .i64 a0] rfl qy29 ?_;(with_reducible refine (cmp_isNaN_int.calls a0 true _ A3.out).mono ?_);rintro e w' ⟨rfl,⟨nd,rfl⟩⟩;refine ⟨_,rfl,?_⟩)|((with_reducible refine gate_callee (f:=161) rfl ?_);refine goesL_ (some 10) rfl rfl Tryz.func161 (by kernel_rfl) rfl #[.int .i64 a1] rfl qy29 ?_;(with_reducible refine (cmp_isNaN_int.calls a1 true _ A4.out).mono ?_);rintro e w' ⟨rfl,⟨nd,rfl⟩⟩;refine ⟨_,rfl,?_⟩))
   go_ret;exact ⟨qy76,qy71⟩
  ·replace c6:=Bool.eq_false_iff.mpr c6;subst c6;have H1:(some (-1))=some r:=by rw [if_neg (show ¬ (false=true) by decide)] at H;exact H
   clear H;have H:=H1;clear H1;obtain rfl:=Option.some.inj H;go_enter Tryz.func144,Tryz.ntmps144
   go_wp2_with (first|((with_reducible refine gate_callee (f:=161) rfl ?_);refine goesL_ (some 8) rfl rfl Tryz.func161 (by kernel_rfl) rfl #[.int .i64 a0] rfl qy29 ?_;(with_reducible refine (cmp_isNaN_int.calls a0 true _ A3.out).mono ?_);rintro e w' ⟨rfl,⟨nd,rfl⟩⟩;refine ⟨_,rfl,?_⟩)|((with_reducible refine gate_callee (f:=161) rfl ?_);refine goesL_ (some 10) rfl rfl Tryz.func161 (by kernel_rfl) rfl #[.int .i64 a1] rfl qy29 ?_;(with_reducible refine (cmp_isNaN_int.calls a1 false _ A4.out).mono ?_);rintro e w' ⟨rfl,⟨nd,rfl⟩⟩;refine ⟨_,rfl,?_⟩))
   go_ret;exact ⟨qy76,qy71⟩
 ·replace c5:=Bool.eq_false_iff.mpr c5;subst c5;have H1:(if t182=true then (some 1) else (if a0 < a1 then (some (-1)) else (if a0 > a1 then (some 1) else (some 0))))=some r:=by rw [if_neg (show ¬ (false=true) by decide)] at H;exact H
  clear H;have H:=H1;clear H1;by_cases c7:t182=true
  ·subst c7;have H1:(some 1)=some r:=by rw [if_pos rfl] at H;exact H
   clear H;have H:=H1;clear H1;obtain rfl:=Option.some.inj H;go_enter Tryz.func144,Tryz.ntmps144
   go_wp2_with (first|((with_reducible refine gate_callee (f:=161) rfl ?_);refine goesL_ (some 8) rfl rfl Tryz.func161 (by kernel_rfl) rfl #[.int .i64 a0] rfl qy29 ?_;(with_reducible refine (cmp_isNaN_int.calls a0 false _ A3.out).mono ?_);rintro e w' ⟨rfl,⟨nd,rfl⟩⟩;refine ⟨_,rfl,?_⟩)|((with_reducible refine gate_callee (f:=161) rfl ?_);refine goesL_ (some 10) rfl rfl Tryz.func161 (by kernel_rfl) rfl #[.int .i64 a1] rfl qy29 ?_;(with_reducible refine (cmp_isNaN_int.calls a1 true _ A4.out).mono ?_);rintro e w' ⟨rfl,⟨nd,rfl⟩⟩;refine ⟨_,rfl,?_⟩))
   go_ret;exact ⟨qy76,qy71⟩
  ·replace c7:=Bool.eq_false_iff.mpr c7;subst c7;have H1:(if a0 < a1 then (some (-1)) else (if a0 > a1 then (some 1) else (some 0)))=some r:=by rw [if_neg (show ¬ (false=true) by decide)] at H;exact H
   clear H;have H:=H1;clear H1;by_cases c8:a0 < a1
   ·rw [if_pos c8] at H;have c8b0:decide (a0 < a1)=true:=decide_eq_true c8;clear c8;obtain rfl:=Option.some.inj H;go_enter Tryz.func144,Tryz.ntmps144
    go_wp2_with (first|((with_reducible refine gate_callee (f:=161) rfl ?_);refine goesL_ (some 8) rfl rfl Tryz.func161 (by kernel_rfl) rfl #[.int .i64 a0] rfl qy29 ?_;(with_reducible refine (cmp_isNaN_int.calls a0 false _ A3.out).mono ?_);rintro e w' ⟨rfl,⟨nd,rfl⟩⟩;refine ⟨_,rfl,?_⟩)|((with_reducible refine gate_callee (f:=161) rfl ?_);refine goesL_ (some 10) rfl rfl Tryz.func161 (by kernel_rfl) rfl #[.int .i64 a1] rfl qy29 ?_;(with_reducible refine (cmp_isNaN_int.calls a1 false _ A4.out).mono ?_);rintro e w' ⟨rfl,⟨nd,rfl⟩⟩;refine ⟨_,rfl,?_⟩))
    go_ret;exact ⟨qy76,qy71⟩
   ·rw [if_neg c8] at H;have c8b0:decide (a0 < a1)=false:=decide_eq_false c8;clear c8;by_cases c9:a0 > a1
    ·rw [if_pos c9] at H;have c9b0:decide (a1 < a0)=true:=decide_eq_true c9;clear c9;obtain rfl:=Option.some.inj H;go_enter Tryz.func144,Tryz.ntmps144
     go_wp2_with (first|((with_reducible refine gate_callee (f:=161) rfl ?_);refine goesL_ (some 8) rfl rfl Tryz.func161 (by kernel_rfl) rfl #[.int .i64 a0] rfl qy29 ?_;(with_reducible refine (cmp_isNaN_int.calls a0 false _ A3.out).mono ?_);rintro e w' ⟨rfl,⟨nd,rfl⟩⟩;refine ⟨_,rfl,?_⟩)|((with_reducible refine gate_callee (f:=161) rfl ?_);refine goesL_ (some 10) rfl rfl Tryz.func161 (by kernel_rfl) rfl #[.int .i64 a1] rfl qy29 ?_;(with_reducible refine (cmp_isNaN_int.calls a1 false _ A4.out).mono ?_);rintro e w' ⟨rfl,⟨nd,rfl⟩⟩;refine ⟨_,rfl,?_⟩))
     go_ret;exact ⟨qy76,qy71⟩
    ·rw [if_neg c9] at H;have c9b0:decide (a1 < a0)=false:=decide_eq_false c9;clear c9;obtain rfl:=Option.some.inj H;go_enter Tryz.func144,Tryz.ntmps144
     go_wp2_with (first|((with_reducible refine gate_callee (f:=161) rfl ?_);refine goesL_ (some 8) rfl rfl Tryz.func161 (by kernel_rfl) rfl #[.int .i64 a0] rfl qy29 ?_;(with_reducible refine (cmp_isNaN_int.calls a0 false _ A3.out).mono ?_);rintro e w' ⟨rfl,⟨nd,rfl⟩⟩;refine ⟨_,rfl,?_⟩)|((with_reducible refine gate_callee (f:=161) rfl ?_);refine goesL_ (some 10) rfl rfl Tryz.func161 (by kernel_rfl) rfl #[.int .i64 a1] rfl qy29 ?_;(with_reducible refine (cmp_isNaN_int.calls a1 false _ A4.out).mono ?_);rintro e w' ⟨rfl,⟨nd,rfl⟩⟩;refine ⟨_,rfl,?_⟩))
     go_ret;exact ⟨qy76,qy71⟩

/-! ### slices_Compare_int_int: function 113 -/
def slices_Compare_int_int.l0:Nat→List Int→List Int→List Int→Int→Int→Option (Int)
 |0,_,_,_,_,_=>none
 |k+1,x0,x1,x9,x10,x11=>if x11 < x10 then (if 0≤x11 then (if x11 < (x9.length:Int) then (if x11≥(x1.length:Int) then (some 1) else (if x11 < (x1.length:Int) then ((cmp_Compare_int.f (rd x9 x11) (rd x1 x11)).bind fun t185=>(if t185=0 then (slices_Compare_int_int.l0 k x0 x1 x9 x10 (wrap64 (x11+1))) else (some t185))) else (none))) else (none)) else (none)) else (if (x0.length:Int) < (x1.length:Int) then (some (-1)) else (some 0))
def slices_Compare_int_int.f (k:Nat) (l0:List Int) (l1:List Int):Option (Int):=slices_Compare_int_int.l0 k l0 l1 l0 (l0.length:Int) 0
theorem slices_Compare_int_int.mono_l:∀ k,(∀ y0 y1 y2 y3 y4,LeO (slices_Compare_int_int.l0 k y0 y1 y2 y3 y4) (slices_Compare_int_int.l0 (k+1) y0 y1 y2 y3 y4))
 |0=>fun _ _ _ _ _ r h=>by simp [slices_Compare_int_int.l0] at h
 |k+1=>by
  have ih0:=slices_Compare_int_int.mono_l k
  ·intro y0 y1 y2 y3 y4;unfold slices_Compare_int_int.l0
   repeat' first
   |(with_reducible exact ih0 _ _ _ _ _)
   |(with_reducible exact LeO.refl _)
   |(with_reducible exact LeO.none _)
   |(with_reducible refine LeO.ite ?_ ?_)
   |(with_reducible refine LeO.bind ?_ (fun _=>?_))
   |exact ih0 _ _ _ _ _
   |exact LeO.none _
   |refine LeO.ite ?_ ?_
   |refine LeO.bind ?_ (fun _=>?_)
theorem slices_Compare_int_int.mono:∀ a0 a1 k,LeO (slices_Compare_int_int.f k a0 a1) (slices_Compare_int_int.f (k+1) a0 a1):=by
 intro a0 a1 k;have ih0:=slices_Compare_int_int.mono_l k;unfold slices_Compare_int_int.f
 repeat' first
   |(with_reducible exact ih0 _ _ _ _ _)
   |(with_reducible exact LeO.refl _)
   |(with_reducible exact LeO.none _)
   |(with_reducible refine LeO.ite ?_ ?_)
   |(with_reducible refine LeO.bind ?_ (fun _=>?_))
   |exact ih0 _ _ _ _ _
   |exact LeO.none _
   |refine LeO.ite ?_ ?_
   |refine LeO.bind ?_ (fun _=>?_)
set_option maxHeartbeats 8000000 in
set_option maxRecDepth 100000 in
theorem slices_Compare_int_int.calls (k:Nat) (A0:Option Addr) (c0:Nat) (l0:List Int) (A1:Option Addr) (c1:Nat) (l1:List Int) (r:Int) (w:World) (hr0:Kd.C (Kd.int .i64) w A0 l0.length l0) (hc0:l0.length≤c0) (hr1:Kd.C (Kd.int .i64) w A1 l1.length l1) (hc1:l1.length≤c1) (h:slices_Compare_int_int.f k l0 l1=some r):
  Calls Tryz.prog 113 #[.slice A0 l0.length c0,.slice A1 l1.length c1] w fun e w'=>e=.returned (.int .i64 r)∧Drawn0 w w':=by
 have HR0:=qA hr0;have HC0:=qA hc0;clear hr0 hc0;have HR1:=qA hr1;have HC1:=qA hc1;clear hr1 hc1;have H:(slices_Compare_int_int.l0 k l0 l1 l0 (l0.length:Int) 0)=some r:=h;clear h;have H':=qA H;clear H;go_enter Tryz.func113,Tryz.ntmps113
 go_wp2
 go_loopg [11] k (fun kq v11 w'=>∃ (x11_1:Int),v11=.int .i64 x11_1∧Aside0 (slices_Compare_int_int.l0 kq l0 l1 l0 (l0.length:Int) x11_1=some r)∧Aside0 (kq≤k)∧Drawn0 w w')
 case atStart=>exact ⟨(0),qy76,H',⟨Nat.le_refl _⟩,qy71⟩
 case round=>
  clear H'
  try clear c1
  try clear p2
  obtain ⟨x11_1,rfl,HA,HK1,⟨m1,rfl⟩⟩:=hrel
  cases gk with
  |zero=>exact absurd HA.out (by simp [slices_Compare_int_int.l0])
  |succ k1=>
   have H:=HA.out;clear HA;simp only [slices_Compare_int_int.l0] at H;by_cases c3:x11_1 < (l0.length:Int)
   ·rw [if_pos c3] at H;have c3b0:decide (x11_1 < (l0.length:Int))=true:=decide_eq_true c3;clear c3;by_cases c4:0≤x11_1
    ·rw [if_pos c4] at H;have c4b0:decide (0≤x11_1)=true:=decide_eq_true c4;clear c4;by_cases c5:x11_1 < (l0.length:Int)
     ·rw [if_pos c5] at H;have c5b0:decide (x11_1 < (l0.length:Int))=true:=decide_eq_true c5;clear c5;by_cases c6:x11_1≥(l1.length:Int)
      ·rw [if_pos c6] at H;have c6b0:decide ((l1.length:Int)≤x11_1)=true:=decide_eq_true c6;clear c6;obtain rfl:=Option.some.inj H;have p183:0≤(x11_1:Int):=of_decide_eq_true qy73;have q183:x11_1 < (l0.length:Int):=of_decide_eq_true qy73;obtain ⟨ad183,e183,hx183_0⟩:=Kd.at_int HR0.out x11_1 p183 q183;cases e183;replace p183:=eq_true p183;replace q183:=eq_true q183
       go_wp2
       go_ret;exact ⟨qy76,qy71⟩
      ·rw [if_neg c6] at H;have c6b0:decide ((l1.length:Int)≤x11_1)=false:=decide_eq_false c6;clear c6;by_cases c7:x11_1 < (l1.length:Int)
       ·rw [if_pos c7] at H;have c7b0:decide (x11_1 < (l1.length:Int))=true:=decide_eq_true c7;clear c7;replace H:=Option.bind_eq_some_iff.mp H;obtain ⟨t185,A80,H⟩:=H;replace H:(if t185=0 then (slices_Compare_int_int.l0 k1 l0 l1 l0 (l0.length:Int) (wrap64 (x11_1+1))) else (some t185))=some r:=H;have A8:=qA A80;clear A80;by_cases c9:t185=0
        ·rw [if_pos c9] at H;have c9b0:(t185==0)=true:=beq_iff_eq.mpr c9;have c9b1:(t185 != 0)=false:=bne_eq_false_iff_eq.mpr c9;clear c9;have H':=qA H;clear H;have p183:0≤(x11_1:Int):=of_decide_eq_true qy73;have q183:x11_1 < (l0.length:Int):=of_decide_eq_true qy73;obtain ⟨ad183,e183,hx183_0⟩:=Kd.at_int HR0.out x11_1 p183 q183;cases e183;replace p183:=eq_true p183;replace q183:=eq_true q183;have p184:0≤(x11_1:Int):=of_decide_eq_true qy73;have q184:x11_1 < (l1.length:Int):=of_decide_eq_true qy73;obtain ⟨ad184,e184,hx184_0⟩:=Kd.at_int HR1.out x11_1 p184 q184;cases e184;replace p184:=eq_true p184;replace q184:=eq_true q184
         go_wp2_with (first|((with_reducible refine gate_callee (f:=144) rfl ?_);refine goesL_ (some 26) rfl rfl Tryz.func144 (by kernel_rfl) rfl #[.int .i64 (rd l0 x11_1),.int .i64 (rd l1 x11_1)] rfl qy29 ?_;(with_reducible refine (cmp_Compare_int.calls (rd l0 x11_1) (rd l1 x11_1) t185 _ A8.out).mono ?_);rintro e w' ⟨rfl,⟨nd,rfl⟩⟩;refine ⟨_,rfl,?_⟩))
         go_roundg k1
         case measure=>have:=HK1.out;omega
         case rel=>exact ⟨(wrap64 (x11_1+1)),qy76,H',⟨qy81⟩,qy71⟩
        ·rw [if_neg c9] at H;have c9b0:(t185==0)=false:=beq_eq_false_iff_ne.mpr c9;have c9b1:(t185 != 0)=true:=bne_iff_ne.mpr c9;obtain rfl:=Option.some.inj H;have p183:0≤(x11_1:Int):=of_decide_eq_true qy73;have q183:x11_1 < (l0.length:Int):=of_decide_eq_true qy73;obtain ⟨ad183,e183,hx183_0⟩:=Kd.at_int HR0.out x11_1 p183 q183;cases e183;replace p183:=eq_true p183;replace q183:=eq_true q183;have p184:0≤(x11_1:Int):=of_decide_eq_true qy73;have q184:x11_1 < (l1.length:Int):=of_decide_eq_true qy73;obtain ⟨ad184,e184,hx184_0⟩:=Kd.at_int HR1.out x11_1 p184 q184;cases e184;replace p184:=eq_true p184;replace q184:=eq_true q184
         go_wp2_with (first|((with_reducible refine gate_callee (f:=144) rfl ?_);refine goesL_ (some 26) rfl rfl Tryz.func144 (by kernel_rfl) rfl #[.int .i64 (rd l0 x11_1),.int .i64 (rd l1 x11_1)] rfl qy29 ?_;(with_reducible refine (cmp_Compare_int.calls (rd l0 x11_1) (rd l1 x11_1) t185 _ A8.out).mono ?_);rintro e w' ⟨rfl,⟨nd,rfl⟩⟩;refine ⟨_,rfl,?_⟩))
         go_ret;exact ⟨qy76,qy71⟩
       ·rw [if_neg c7] at H;exact absurd H (by simp)
     ·rw [if_neg c5] at H;exact absurd H (by simp)
    ·rw [if_neg c4] at H;exact absurd H (by simp)
   ·rw [if_neg c3] at H;have c3b0:decide (x11_1 < (l0.length:Int))=false:=decide_eq_false c3;clear c3;by_cases c10:(l0.length:Int) < (l1.length:Int)
    ·rw [if_pos c10] at H;have c10b0:decide ((l0.length:Int) < (l1.length:Int))=true:=decide_eq_true c10;have c10b1:decide (l0.length < l1.length)=true:=decide_eq_true (Int.ofNat_lt.mp c10);clear c10;obtain rfl:=Option.some.inj H
     go_wp2
     go_ret;exact ⟨qy76,qy71⟩
    ·rw [if_neg c10] at H;have c10b0:decide ((l0.length:Int) < (l1.length:Int))=false:=decide_eq_false c10;have c10b1:decide (l0.length < l1.length)=false:=decide_eq_false (fun h=>c10 (Int.ofNat_lt.mpr h));clear c10;obtain rfl:=Option.some.inj H
     go_wp2
     go_ret;exact ⟨qy76,qy71⟩

/-! ### impl_factorial: function 141 -/
def impl_factorial.l0:Nat→Int→Int→Int→Option (Int)
 |0,_,_,_=>none
 |k+1,x0,x3,x4=>if x4≤x0 then (impl_factorial.l0 k x0 (wrap64 (x3*x4)) (wrap64 (x4+1))) else (some x3)
def impl_factorial.f (k:Nat) (a0:Int):Option (Int):=impl_factorial.l0 k a0 1 2
theorem impl_factorial.mono_l:∀ k,(∀ y0 y1 y2,LeO (impl_factorial.l0 k y0 y1 y2) (impl_factorial.l0 (k+1) y0 y1 y2))
 |0=>fun _ _ _ r h=>by simp [impl_factorial.l0] at h
 |k+1=>by
  have ih0:=impl_factorial.mono_l k
  ·intro y0 y1 y2;unfold impl_factorial.l0
   repeat' first
   |(with_reducible exact ih0 _ _ _)
   |(with_reducible exact LeO.refl _)
   |(with_reducible exact LeO.none _)
   |(with_reducible refine LeO.ite ?_ ?_)
   |(with_reducible refine LeO.bind ?_ (fun _=>?_))
   |exact ih0 _ _ _
   |exact LeO.none _
   |refine LeO.ite ?_ ?_
   |refine LeO.bind ?_ (fun _=>?_)
theorem impl_factorial.mono:∀ a0 k,LeO (impl_factorial.f k a0) (impl_factorial.f (k+1) a0):=by
 intro a0 k;have ih0:=impl_factorial.mono_l k;unfold impl_factorial.f
 repeat' first
   |(with_reducible exact ih0 _ _ _)
   |(with_reducible exact LeO.refl _)
   |(with_reducible exact LeO.none _)
   |(with_reducible refine LeO.ite ?_ ?_)
   |(with_reducible refine LeO.bind ?_ (fun _=>?_))
   |exact ih0 _ _ _
   |exact LeO.none _
   |refine LeO.ite ?_ ?_
   |refine LeO.bind ?_ (fun _=>?_)
set_option maxHeartbeats 8000000 in
set_option maxRecDepth 100000 in
theorem impl_factorial.calls (k:Nat) (a0:Int) (r:Int) (w:World) (h:impl_factorial.f k a0=some r):
  Calls Tryz.prog 141 #[.int .i64 a0] w fun e w'=>e=.returned (.int .i64 r)∧Drawn0 w w':=by
 have H:(impl_factorial.l0 k a0 1 2)=some r:=h;clear h;have H':=qA H;clear H;go_enter Tryz.func141,Tryz.ntmps141
 go_wp2
 go_loopg [3,4] k (fun kq v3 v4 w'=>∃ (x3_1:Int) (x4_1:Int),v3=.int .i64 x3_1∧v4=.int .i64 x4_1∧Aside0 (impl_factorial.l0 kq a0 x3_1 x4_1=some r)∧Aside0 (kq≤k)∧Drawn0 w w')
 case atStart=>exact ⟨(1),(2),qy76,qy76,H',⟨Nat.le_refl _⟩,qy71⟩
 case round=>
  clear H'
  try clear c1
  obtain ⟨x3_1,x4_1,rfl,rfl,HA,HK1,⟨m1,rfl⟩⟩:=hrel
  cases gk with
  |zero=>exact absurd HA.out (by simp [impl_factorial.l0])
  |succ k1=>
   have H:=HA.out;clear HA;simp only [impl_factorial.l0] at H;by_cases c2:x4_1≤a0
   ·rw [if_pos c2] at H;have c2b0:decide (x4_1≤a0)=true:=decide_eq_true c2;clear c2;have H':=qA H;clear H
    go_wp2
    go_roundg k1
    case measure=>have:=HK1.out;omega
    case rel=>exact ⟨(wrap64 (x3_1*x4_1)),(wrap64 (x4_1+1)),qy76,qy76,H',⟨qy81⟩,qy71⟩
   ·rw [if_neg c2] at H;have c2b0:decide (x4_1≤a0)=false:=decide_eq_false c2;clear c2;obtain rfl:=Option.some.inj H
    go_wp2
    go_ret;exact ⟨qy76,qy71⟩

/-! ### impl_sorted: function 91 -/
def impl_sorted.l0:Nat→List Int→Int→Int→Option (List Int)
 |0,_,_,_=>none
 |k+1,x3,x6,x7=>if x7 < x6 then (if x3.length < 17592186044416 then (impl_sorted.l0 k (x3++[wrap64 (x7+1)]) x6 (wrap64 (x7+1))) else (none)) else (some x3)
def impl_sorted.f (k:Nat) (a0:Int):Option (List Int):=impl_sorted.l0 k (([]:List Int)) a0 0
set_option maxHeartbeats 8000000 in
set_option maxRecDepth 100000 in
theorem impl_sorted.calls (k:Nat) (a0:Int) (r:List Int) (w:World) (h:impl_sorted.f k a0=some r):
  Calls Tryz.prog 91 #[.int .i64 a0] w fun e w'=>∃ v0_:Value,e=.returned (v0_)∧Kd.R (Kd.int .i64) 3 w' w.heap.size (fun _=>True) v0_ r∧Below w.heap.size w w':=by
 have HB:=qA (Below.refl w.heap.size w);have H:(impl_sorted.l0 k (([]:List Int)) a0 0)=some r:=h;clear h
 obtain ⟨y186,hy186⟩:∃ y_:List Int,y_=(([]:List Int)):=⟨_,rfl⟩
 replace H:(impl_sorted.l0 k y186 a0 0)=some r:=by first|(rw [hy186];with_reducible exact H)|(have H2_:=(Option.bind_some _ _).symm.trans H;rw [hy186];with_reducible exact H2_)|(have H2_:=(Option.bind_some _ _).symm.trans H;with_reducible exact H2_)|with_reducible exact H|(rw [hy186];exact H)|exact H
 have Ny186:=qA hy186;clear hy186;have H':=qA H;clear H;go_enter Tryz.func91,Tryz.ntmps91
 go_wp2_with (first|((with_reducible refine gate_dst (N:=5) rfl ?_);refine Kd.R_lit (Kd.int .i64) _ 3 ?hg (N:=5) ?hd (xs:=([]:List Int)) (inner:=[]) (ok:=fun _=>True) (okp:=fun _=>True) ?hr ?hp (fun _ hk=>hk) trivial (Below.refl _ _) (Nat.le_refl _) (by simp) ?_;(case hd=>rfl);(case hg=>rfl);(case hr=>first|(go_simp;done)|(go_simp;rfl));(case hp=>exact (Reps.none _ _));intro v187 w2 ho3 hb hg_ hnew_;clear hg_ hnew_;(first|rw [← Ny186.out] at ho3|(simp only [Int.reduceToNat] at ho3;rw [← Ny186.out] at ho3));have n0_:=qA (Kd.R_lower ho3 (below_size qy33));have n1_:=qA (below_step qy33 hb);clear HB;have HO188:=n0_;have HB:=n1_;clear n0_ n1_;clear hb ho3))
 go_loopg [3,7] k (fun kq v3 v7 w'=>∃ (x3_1:List Int) (x7_1:Int),v7=.int .i64 x7_1∧Aside0 (impl_sorted.l0 kq x3_1 a0 x7_1=some r)∧Aside0 (kq≤k)∧Aside0 (Kd.R (Kd.int .i64) 3 w' w.heap.size (fun _=>True) v3 x3_1)∧Aside0 (Below w.heap.size w w'))
 case atStart=>exact ⟨(y186),(0),qy76,H',⟨Nat.le_refl _⟩,⟨(by (with_reducible repeat (first|apply Kd.R_alloc|apply Kd.R_drewN|apply Kd.R_drew));exact HO188.out)⟩,⟨qy33⟩⟩
 case round=>
  clear H'
  try clear p2
  obtain ⟨x3_1,x7_1,rfl,HA,HK1,HO_3,HB⟩:=hrel
  cases gk with
  |zero=>exact absurd HA.out (by simp [impl_sorted.l0])
  |succ k1=>
   have H:=HA.out;clear HA;simp only [impl_sorted.l0] at H;by_cases c4:x7_1 < a0
   ·rw [if_pos c4] at H;have c4b0:decide (x7_1 < a0)=true:=decide_eq_true c4;clear c4;by_cases c5:x3_1.length < 17592186044416
    ·rw [if_pos c5] at H;have LMc5:=qA c5;clear c5
     obtain ⟨y189,hy189⟩:∃ y_:List Int,y_=(x3_1++[wrap64 (x7_1+1)]):=⟨_,rfl⟩
     replace H:(impl_sorted.l0 k1 y189 a0 (wrap64 (x7_1+1)))=some r:=by first|(rw [hy189];with_reducible exact H)|(have H2_:=(Option.bind_some _ _).symm.trans H;rw [hy189];with_reducible exact H2_)|(have H2_:=(Option.bind_some _ _).symm.trans H;with_reducible exact H2_)|with_reducible exact H|(rw [hy189];exact H)|exact H
     have Ny189:=qA hy189;clear hy189;have H':=qA H;clear H
     go_wp2_with (first|((with_reducible refine gate_builtin (b:=.append) (xs:= #[.tmp 10,.tmp 13]) rfl ?_);at_builtin;refine Kd.R_append (Kd.int .i64) (w0:=w) w.heap.size rfl (.tmp 10) (.tmp 13) 36 3 (.int .i64 0) 8 rfl Tryz.underlying36 info3 rfl (by decide) (by omega) u3 x3_1 (wrap64 (x7_1+1)) [.int .i64 (wrap64 (x7_1+1))] (fun _=>True) (fun _=>False) rfl rfl ?aP (fun _ hk=>hk.elim) ?aF ?aO ?aB ?aS ?aL ?_;(case aP=>exact rfl);(case aB=>exact qy33);(case aF=>exact (fun _ _=>trivial));(case aO=>exact qy63);(case aS=>exact (below_size qy33));(case aL=>have:=LMc5.out;omega);intro v190 w6 ho hb hg hat;rw [← Ny189.out] at ho;have n0_:=qA (hb);have n1_:=qA (ho);clear HB;clear HO_3;have HB:=n0_;have HO191:=n1_;clear n0_ n1_;clear ho hb hg hat))
     go_roundg k1
     case measure=>have:=HK1.out;omega
     case rel=>exact ⟨(y189),(wrap64 (x7_1+1)),qy76,H',⟨qy81⟩,⟨(by (with_reducible repeat (first|apply Kd.R_alloc|apply Kd.R_drewN|apply Kd.R_drew));exact HO191.out)⟩,⟨qy33⟩⟩
    ·rw [if_neg c5] at H;exact absurd H (by simp)
   ·rw [if_neg c4] at H;have c4b0:decide (x7_1 < a0)=false:=decide_eq_false c4;clear c4;obtain rfl:=Option.some.inj H
    go_wp2
    go_ret;exact ⟨_,qy68,qy63,qy33⟩

end Go.Proofs.YtaoecbpfocillaaGreat.Xdz
