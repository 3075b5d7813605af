-- Written by this session's own program (xprint.py) over the kit's print.py: functions, contracts and rows of the laws of one seat.
import Derived.Test.YtaoecbpfocillaaGreatZoXdz0
namespace Go.Proofs.YtaoecbpfocillaaGreat.Xdz
open Go.RowKit Go.Proofs.YtaoecbpfocillaaGreatW.PrintWords Go.Proofs.YtaoecbpfocillaaGreatW.PrintLast Go.Proofs.YtaoecbpfocillaaGreatW.PrintMore
attribute [local go_sem] max2_int min2_int max_two min_two max_three min_three max_four min_four -- for this text's walks alone
set_option linter.unusedVariables false
set_option linter.unusedSimpArgs false

/-! ### slices_Equal_int_int: function 163 -/
def slices_Equal_int_int.l0:Nat→List Int→List Int→Int→Int→Option (Bool)
 |0,_,_,_,_=>none
 |k+1,x0,x1,x12,x13=>if x13 < x12 then (if 0≤x13 then (if x13 < (x0.length:Int) then (if x13 < (x1.length:Int) then (if (rd x0 x13)=(rd x1 x13) then (slices_Equal_int_int.l0 k x0 x1 x12 (wrap64 (x13+1))) else (some false)) else (none)) else (none)) else (none)) else (some true)
def slices_Equal_int_int.f (k:Nat) (l0:List Int) (l1:List Int):Option (Bool):=if (l0.length:Int)=(l1.length:Int) then (slices_Equal_int_int.l0 k l0 l1 (l0.length:Int) 0) else (some false)
set_option maxHeartbeats 8000000 in
set_option maxRecDepth 100000 in
theorem slices_Equal_int_int.calls (k:Nat) (A0:Option Addr) (c0:Nat) (l0:List Int) (A1:Option Addr) (c1:Nat) (l1:List Int) (r:Bool) (w:World) (hr0:Kd.C (Kd.int .i64) w A0 l0.length l0) (hc0:l0.length≤c0) (hr1:Kd.C (Kd.int .i64) w A1 l1.length l1) (hc1:l1.length≤c1) (h:slices_Equal_int_int.f k l0 l1=some r):
  Calls Tryz.prog 163 #[.slice A0 l0.length c0,.slice A1 l1.length c1] w fun e w'=>e=.returned (.bool r)∧Drawn0 w w':=by
 have HR0:=qA hr0;have HC0:=qA hc0;clear hr0 hc0;have HR1:=qA hr1;have HC1:=qA hc1;clear hr1 hc1;have H:(if (l0.length:Int)=(l1.length:Int) then (slices_Equal_int_int.l0 k l0 l1 (l0.length:Int) 0) else (some false))=some r:=h;clear h;by_cases c3:(l0.length:Int)=(l1.length:Int)
 ·rw [if_pos c3] at H;have c3b0:((l0.length:Int)==(l1.length:Int))=true:=beq_iff_eq.mpr c3;have c3b1:((l0.length:Int) != (l1.length:Int))=false:=bne_eq_false_iff_eq.mpr c3
  have c3b2:(l0.length==l1.length)=true:=by first|simpa using c3|(simp at c3 ⊢;omega)
  clear c3;have H':=qA H;clear H;go_enter Tryz.func163,Tryz.ntmps163
  go_wp2
  repeat (go_quiet (fail);try go_wp2)
  go_loopg [13] k (fun kq v13 w'=>∃ (x13_1:Int),v13=.int .i64 x13_1∧Aside0 (slices_Equal_int_int.l0 kq l0 l1 (l0.length:Int) x13_1=some r)∧Aside0 (kq≤k)∧Drawn0 w w')
  case atStart=>exact ⟨(0),qy76,H',⟨Nat.le_refl _⟩,qy71⟩
  case round=>
   clear H'
   try clear c1
   try clear p2
   try clear c3
   try clear c3b0
   try clear c3b1
   try clear c3b2
   obtain ⟨x13_1,rfl,HA,HK1,⟨m1,rfl⟩⟩:=hrel
   cases gk with
   |zero=>exact absurd HA.out (by simp [slices_Equal_int_int.l0])
   |succ k1=>
    have H:=HA.out;clear HA;simp only [slices_Equal_int_int.l0] at H;by_cases c4:x13_1 < (l0.length:Int)
    ·rw [if_pos c4] at H;have c4b0:decide (x13_1 < (l0.length:Int))=true:=decide_eq_true c4;clear c4;by_cases c5:0≤x13_1
     ·rw [if_pos c5] at H;have c5b0:decide (0≤x13_1)=true:=decide_eq_true c5;clear c5;by_cases c6:x13_1 < (l0.length:Int)
      ·rw [if_pos c6] at H;have c6b0:decide (x13_1 < (l0.length:Int))=true:=decide_eq_true c6;clear c6;by_cases c7:x13_1 < (l1.length:Int)
       ·rw [if_pos c7] at H;have c7b0:decide (x13_1 < (l1.length:Int))=true:=decide_eq_true c7;clear c7;by_cases c8:(rd l0 x13_1)=(rd l1 x13_1)
        ·rw [if_pos c8] at H;have c8b0:((rd l0 x13_1)==(rd l1 x13_1))=true:=beq_iff_eq.mpr c8;have c8b1:((rd l0 x13_1) != (rd l1 x13_1))=false:=bne_eq_false_iff_eq.mpr c8;clear c8;have H':=qA H;clear H;have p203:0≤(x13_1:Int):=of_decide_eq_true qy73;have q203:x13_1 < (l0.length:Int):=of_decide_eq_true qy73;obtain ⟨ad203,e203,hx203_0⟩:=Kd.at_int HR0.out x13_1 p203 q203;cases e203;replace p203:=eq_true p203;replace q203:=eq_true q203;have p204:0≤(x13_1:Int):=of_decide_eq_true qy73;have q204:x13_1 < (l1.length:Int):=of_decide_eq_true qy73;obtain ⟨ad204,e204,hx204_0⟩:=Kd.at_int HR1.out x13_1 p204 q204;cases e204;replace p204:=eq_true p204;replace q204:=eq_true q204
         go_wp2
         repeat (go_quiet (fail);try go_wp2)
         go_roundg k1
         case measure=>have:=HK1.out;omega
         case rel=>exact ⟨(wrap64 (x13_1+1)),qy76,H',⟨qy81⟩,qy71⟩
        ·rw [if_neg c8] at H;have c8b0:((rd l0 x13_1)==(rd l1 x13_1))=false:=beq_eq_false_iff_ne.mpr c8;have c8b1:((rd l0 x13_1) != (rd l1 x13_1))=true:=bne_iff_ne.mpr c8;obtain rfl:=Option.some.inj H;have p203:0≤(x13_1:Int):=of_decide_eq_true qy73;have q203:x13_1 < (l0.length:Int):=of_decide_eq_true qy73;obtain ⟨ad203,e203,hx203_0⟩:=Kd.at_int HR0.out x13_1 p203 q203;cases e203;replace p203:=eq_true p203;replace q203:=eq_true q203;have p204:0≤(x13_1:Int):=of_decide_eq_true qy73;have q204:x13_1 < (l1.length:Int):=of_decide_eq_true qy73;obtain ⟨ad204,e204,hx204_0⟩:=Kd.at_int HR1.out x13_1 p204 q204;cases e204;replace p204:=eq_true p204;replace q204:=eq_true q204
         go_wp2
         repeat (go_quiet (fail);try go_wp2)
         go_ret;exact ⟨qy76,qy71⟩
       ·rw [if_neg c7] at H;exact absurd H (by simp)
      ·rw [if_neg c6] at H;exact absurd H (by simp)
     ·rw [if_neg c5] at H;exact absurd H (by simp)
    ·rw [if_neg c4] at H;have c4b0:decide (x13_1 < (l0.length:Int))=false:=decide_eq_false c4;clear c4;obtain rfl:=Option.some.inj H
     go_wp2
     repeat (go_quiet (fail);try go_wp2)
     go_ret;exact ⟨qy76,qy71⟩
 ·rw [if_neg c3] at H;have c3b0:((l0.length:Int)==(l1.length:Int))=false:=beq_eq_false_iff_ne.mpr c3;have c3b1:((l0.length:Int) != (l1.length:Int))=true:=bne_iff_ne.mpr c3
  have c3b2:(l0.length==l1.length)=false:=by first|simpa using c3|(simp at c3 ⊢;omega)
  obtain rfl:=Option.some.inj H;go_enter Tryz.func163,Tryz.ntmps163
  go_wp2
  repeat (go_quiet (fail);try go_wp2)
  go_ret;exact ⟨qy76,qy71⟩

/-! ### impl_shape: function 164 -/
mutual
def impl_shape.l0:Nat→List Int→List Int→List Int→Int→Int→Option (List Int)
 |0,_,_,_,_,_=>none
 |k+1,x0,x3,x10,x11,x12=>if x12 < x11 then (if 0≤x12 then (if x12 < (x10.length:Int) then (impl_shape.l1 k x0 x3 (rd x10 x12) 1 x10 x11 x12 x0 (x0.length:Int) 0) else (none)) else (none)) else (some x3)
def impl_shape.l1:Nat→List Int→List Int→Int→Int→List Int→Int→Int→List Int→Int→Int→Option (List Int)
 |0,_,_,_,_,_,_,_,_,_,_=>none
 |k+1,x0,x3,x5,x6,x10,x11,x12,x16,x17,x18=>if x18 < x17 then (if 0≤x18 then (if x18 < (x16.length:Int) then (if (rd x16 x18) < x5 then (impl_shape.l1 k x0 x3 x5 (wrap64 (x6+1)) x10 x11 x12 x16 x17 (wrap64 (x18+1))) else (impl_shape.l1 k x0 x3 x5 x6 x10 x11 x12 x16 x17 (wrap64 (x18+1)))) else (none)) else (none)) else (if x3.length < 17592186044416 then (impl_shape.l0 k x0 (x3++[x6]) x10 x11 (wrap64 (x12+1))) else (none))
end
def impl_shape.f (k:Nat) (l0:List Int):Option (List Int):=impl_shape.l0 k l0 (([]:List Int)) l0 (l0.length:Int) 0
set_option maxHeartbeats 8000000 in
set_option maxRecDepth 100000 in
theorem impl_shape.calls (k:Nat) (A0:Option Addr) (c0:Nat) (l0:List Int) (r:List Int) (w:World) (hr0:Kd.C (Kd.int .i64) w A0 l0.length l0) (hc0:l0.length≤c0) (h:impl_shape.f k l0=some r):
  Calls Tryz.prog 164 #[.slice A0 l0.length c0] w fun e w'=>∃ v0_:Value,e=.returned (v0_)∧Kd.R (Kd.int .i64) 3 w' w.heap.size (fun _=>True) v0_ r∧Below w.heap.size w w':=by
 have HR0:=qA hr0;have HC0:=qA hc0;clear hr0 hc0;have HB:=qA (Below.refl w.heap.size w);have H:(impl_shape.l0 k l0 (([]:List Int)) l0 (l0.length:Int) 0)=some r:=h;clear h
 obtain ⟨y205,hy205⟩:∃ y_:List Int,y_=(([]:List Int)):=⟨_,rfl⟩
 replace H:(impl_shape.l0 k l0 y205 l0 (l0.length:Int) 0)=some r:=by first|(rw [hy205];with_reducible exact H)|(have H2_:=(Option.bind_some _ _).symm.trans H;rw [hy205];with_reducible exact H2_)|(have H2_:=(Option.bind_some _ _).symm.trans H;with_reducible exact H2_)|with_reducible exact H|(rw [hy205];exact H)|exact H
 have Ny205:=qA hy205;clear hy205;have H':=qA H;clear H;go_enter Tryz.func164,Tryz.ntmps164
 go_wp2_with (first|((with_reducible refine gate_dst (N:=9) rfl ?_);refine Kd.R_lit (Kd.int .i64) _ 3 ?hg (N:=9) ?hd (xs:=([]:List Int)) (inner:=[]) (ok:=fun _=>True) (okp:=fun _=>True) ?hr ?hp (fun _ hk=>hk) trivial (Below.refl _ _) (Nat.le_refl _) (by simp) ?_;(case hd=>rfl);(case hg=>rfl);(case hr=>first|(go_simp;done)|(go_simp;rfl));(case hp=>exact (Reps.none _ _));intro v206 w2 ho3 hb hg_ hnew_;clear hg_ hnew_;(first|rw [← Ny205.out] at ho3|(simp only [Int.reduceToNat] at ho3;rw [← Ny205.out] at ho3));have n0_:=qA (Kd.R_lower ho3 (below_size qy33));have n1_:=qA (below_step qy33 hb);clear HB;have HO207:=n0_;have HB:=n1_;clear n0_ n1_;clear hb ho3))
 go_loopg [3,12] k (fun kq v3 v12 w'=>∃ (x3_1:List Int) (x12_1:Int),v12=.int .i64 x12_1∧Aside0 (impl_shape.l0 kq l0 x3_1 l0 (l0.length:Int) x12_1=some r)∧Aside0 (kq≤k)∧Aside0 (Kd.R (Kd.int .i64) 3 w' w.heap.size (fun _=>True) v3 x3_1)∧Aside0 (Below w.heap.size w w'))
 case atStart=>exact ⟨(y205),(0),qy76,H',⟨Nat.le_refl _⟩,⟨(by (with_reducible repeat (first|apply Kd.R_alloc|apply Kd.R_drewN|apply Kd.R_drew));exact HO207.out)⟩,⟨qy33⟩⟩
 case round=>
  clear H'
  try clear c1
  try clear p2
  obtain ⟨x3_1,x12_1,rfl,HA,HK1,HO_3,HB⟩:=hrel
  cases gk with
  |zero=>exact absurd HA.out (by simp [impl_shape.l0])
  |succ k1=>
   have H:=HA.out;clear HA;simp only [impl_shape.l0] at H;by_cases c4:x12_1 < (l0.length:Int)
   ·rw [if_pos c4] at H;have c4b0:decide (x12_1 < (l0.length:Int))=true:=decide_eq_true c4;clear c4;by_cases c5:0≤x12_1
    ·rw [if_pos c5] at H;have c5b0:decide (0≤x12_1)=true:=decide_eq_true c5;clear c5;by_cases c6:x12_1 < (l0.length:Int)
     ·rw [if_pos c6] at H;have c6b0:decide (x12_1 < (l0.length:Int))=true:=decide_eq_true c6;clear c6;have H':=qA H;clear H;have p208:0≤(x12_1:Int):=of_decide_eq_true qy73;have q208:x12_1 < (l0.length:Int):=of_decide_eq_true qy73;obtain ⟨ad208,e208,hx208_0⟩:=Kd.at_int HR0.out x12_1 p208 q208;cases e208;replace hx208_0:=(HB.out.cell (World.block_lt_of_cell? w _ hx208_0)).trans hx208_0;replace p208:=eq_true p208;replace q208:=eq_true q208
      go_wp2
      go_loopg [6,18] k1 (fun kq v6 v18 w'=>∃ (x6_2:Int) (x18_2:Int),v6=.int .i64 x6_2∧v18=.int .i64 x18_2∧Aside0 (impl_shape.l1 kq l0 x3_1 (rd l0 x12_1) x6_2 l0 (l0.length:Int) x12_1 l0 (l0.length:Int) x18_2=some r)∧Aside0 (kq≤k1)∧Aside0 (Kd.R (Kd.int .i64) 3 w' w.heap.size (fun _=>True) u3 x3_1)∧Aside0 (Below w.heap.size w w'))
      case atStart=>exact ⟨(1),(0),qy76,qy76,H',⟨Nat.le_refl _⟩,⟨qy63⟩,⟨qy33⟩⟩
      case round=>
       clear H'
       try clear c1
       try clear p2
       try clear q2
       try clear hx2
       try clear c4
       try clear c4b0
       try clear c5
       try clear c5b0
       try clear c6
       try clear c6b0
       try clear hx208_0
       try clear p2
       try clear p208
       try clear q208
       obtain ⟨x6_2,x18_2,rfl,rfl,HA,HK2,HO_3,HB⟩:=hrel
       cases gk with
       |zero=>exact absurd HA.out (by simp [impl_shape.l1])
       |succ k2=>
        have H:=HA.out;clear HA;simp only [impl_shape.l1] at H;by_cases c7:x18_2 < (l0.length:Int)
        ·rw [if_pos c7] at H;have c7b0:decide (x18_2 < (l0.length:Int))=true:=decide_eq_true c7;clear c7;by_cases c8:0≤x18_2
         ·rw [if_pos c8] at H;have c8b0:decide (0≤x18_2)=true:=decide_eq_true c8;clear c8;by_cases c9:x18_2 < (l0.length:Int)
          ·rw [if_pos c9] at H;have c9b0:decide (x18_2 < (l0.length:Int))=true:=decide_eq_true c9;clear c9;by_cases c10:(rd l0 x18_2) < (rd l0 x12_1)
           ·rw [if_pos c10] at H;have c10b0:decide ((rd l0 x18_2) < (rd l0 x12_1))=true:=decide_eq_true c10;clear c10;have H':=qA H;clear H;have p209:0≤(x18_2:Int):=of_decide_eq_true qy73;have q209:x18_2 < (l0.length:Int):=of_decide_eq_true qy73;obtain ⟨ad209,e209,hx209_0⟩:=Kd.at_int HR0.out x18_2 p209 q209
            obtain rfl:ad208=ad209:=(by injection e209)
            replace hx209_0:=(HB.out.cell (World.block_lt_of_cell? w _ hx209_0)).trans hx209_0;replace p209:=eq_true p209;replace q209:=eq_true q209
            go_wp2
            go_roundg k2
            case measure=>have:=HK1.out;have:=HK2.out;omega
            case rel=>exact ⟨(wrap64 (x6_2+1)),(wrap64 (x18_2+1)),qy76,qy76,H',⟨qy78⟩,⟨qy63⟩,⟨qy33⟩⟩
           ·rw [if_neg c10] at H;have c10b0:decide ((rd l0 x18_2) < (rd l0 x12_1))=false:=decide_eq_false c10;clear c10;have H':=qA H;clear H;have p209:0≤(x18_2:Int):=of_decide_eq_true qy73;have q209:x18_2 < (l0.length:Int):=of_decide_eq_true qy73;obtain ⟨ad209,e209,hx209_0⟩:=Kd.at_int HR0.out x18_2 p209 q209
            obtain rfl:ad208=ad209:=(by injection e209)
            replace hx209_0:=(HB.out.cell (World.block_lt_of_cell? w _ hx209_0)).trans hx209_0;replace p209:=eq_true p209;replace q209:=eq_true q209
            go_wp2
            go_roundg k2
            case measure=>have:=HK1.out;have:=HK2.out;omega
            case rel=>exact ⟨(x6_2),(wrap64 (x18_2+1)),qy76,qy76,H',⟨qy78⟩,⟨qy63⟩,⟨qy33⟩⟩
          ·rw [if_neg c9] at H;exact absurd H (by simp)
         ·rw [if_neg c8] at H;exact absurd H (by simp)
        ·rw [if_neg c7] at H;have c7b0:decide (x18_2 < (l0.length:Int))=false:=decide_eq_false c7;clear c7;by_cases c11:x3_1.length < 17592186044416
         ·rw [if_pos c11] at H;have LMc11:=qA c11;clear c11
          obtain ⟨y210,hy210⟩:∃ y_:List Int,y_=(x3_1++[x6_2]):=⟨_,rfl⟩
          replace H:(impl_shape.l0 k2 l0 y210 l0 (l0.length:Int) (wrap64 (x12_1+1)))=some r:=by first|(rw [hy210];with_reducible exact H)|(have H2_:=(Option.bind_some _ _).symm.trans H;rw [hy210];with_reducible exact H2_)|(have H2_:=(Option.bind_some _ _).symm.trans H;with_reducible exact H2_)|with_reducible exact H|(rw [hy210];exact H)|exact H
          have Ny210:=qA hy210;clear hy210;have H':=qA H;clear H
          go_wp2_with (first|((with_reducible refine gate_builtin (b:=.append) (xs:= #[.tmp 28,.tmp 30]) rfl ?_);at_builtin;refine Kd.R_append (Kd.int .i64) (w0:=w) w.heap.size rfl (.tmp 28) (.tmp 30) 36 3 (.int .i64 0) 8 rfl Tryz.underlying36 info3 rfl (by decide) (by omega) u3 x3_1 x6_2 [.int .i64 x6_2] (fun _=>True) (fun _=>False) rfl rfl ?aP (fun _ hk=>hk.elim) ?aF ?aO ?aB ?aS ?aL ?_;(case aP=>exact rfl);(case aB=>exact qy33);(case aF=>exact (fun _ _=>trivial));(case aO=>exact qy63);(case aS=>exact (below_size qy33));(case aL=>have:=LMc11.out;omega);intro v211 w12 ho hb hg hat;rw [← Ny210.out] at ho;have n0_:=qA (hb);have n1_:=qA (ho);clear HB;clear HO_3;have HB:=n0_;have HO212:=n1_;clear n0_ n1_;clear ho hb hg hat))
          go_roundg k2
          case measure=>have:=HK1.out;have:=HK2.out;omega
          case rel=>exact ⟨(y210),(wrap64 (x12_1+1)),qy76,H',⟨qy78⟩,⟨(by (with_reducible repeat (first|apply Kd.R_alloc|apply Kd.R_drewN|apply Kd.R_drew));exact HO212.out)⟩,⟨qy33⟩⟩
         ·rw [if_neg c11] at H;exact absurd H (by simp)
     ·rw [if_neg c6] at H;exact absurd H (by simp)
    ·rw [if_neg c5] at H;exact absurd H (by simp)
   ·rw [if_neg c4] at H;have c4b0:decide (x12_1 < (l0.length:Int))=false:=decide_eq_false c4;clear c4;obtain rfl:=Option.some.inj H
    go_wp2
    go_ret;exact ⟨_,qy68,qy63,qy33⟩

end Go.Proofs.YtaoecbpfocillaaGreat.Xdz
