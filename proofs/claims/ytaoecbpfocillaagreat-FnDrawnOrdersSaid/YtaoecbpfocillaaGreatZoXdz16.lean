-- Written by this session's own program (xprint.py) over the kit's print.py: functions, contracts and rows of the laws of one seat.
import Derived.Test.YtaoecbpfocillaaGreatZoXdz0
import Derived.Test.YtaoecbpfocillaaGreatZoXdz9
import Derived.Test.YtaoecbpfocillaaGreatZoXdz10
import Derived.Test.YtaoecbpfocillaaGreatZoXdzHsqu
namespace Go.Proofs.YtaoecbpfocillaaGreat.Xdz
open Go.RowKit Go.Proofs.YtaoecbpfocillaaGreatW.PrintWords Go.Proofs.YtaoecbpfocillaaGreatW.PrintLast Go.Proofs.YtaoecbpfocillaaGreatW.PrintMore
attribute [local go_sem] max2_int min2_int max_two min_two max_three min_three max_four min_four -- for this text's walks alone
set_option linter.unusedVariables false
set_option linter.unusedSimpArgs false

/-! ### spec_ChanceQueues: function 18 -/
mutual
def spec_ChanceQueues.j0:Nat→Int→Int→Bool→Option (Int × Int × Bool)
 |0,_,_,_=>none
 |k+1,x0,x1,x16=>if x16=true then (some (0,0,false)) else ((spec_l2Orders.f k x0).bind fun t425=>(spec_ChanceQueues.l0 k x1 0 t425 0))
def spec_ChanceQueues.l0:Nat→Int→Int→List (List Int)→Int→Option (Int × Int × Bool)
 |0,_,_,_,_=>none
 |k+1,x1,x6,x7,x8=>if x8 < (x7.length:Int) then (if 0≤x8 then ((spec_l5Queues.f k (rd_L2 x7 x8)).bind fun t429=>(if (t429.length:Int)=x1 then (spec_ChanceQueues.l0 k x1 (wrap64 (x6+1)) x7 (wrap64 (x8+1))) else (spec_ChanceQueues.l0 k x1 x6 x7 (wrap64 (x8+1))))) else (none)) else ((spec_l9Cut.f k x6 (x7.length:Int)).bind fun bt432=>(some (bt432.1,bt432.2,true)))
end
def spec_ChanceQueues.f (k:Nat) (a0:Int) (a1:Int):Option (Int × Int × Bool):=(spec_l9Size.f a0).bind fun t423=>(if t423=true then ((spec_l1In.f a1 1 6).bind fun t424=>(spec_ChanceQueues.j0 k a0 a1 (!t424))) else (spec_ChanceQueues.j0 k a0 a1 true))
set_option maxHeartbeats 8000000 in
set_option maxRecDepth 100000 in
theorem spec_ChanceQueues.calls (k:Nat) (a0:Int) (a1:Int) (r1:Int) (r2:Int) (r3:Bool) (w:World) (h:spec_ChanceQueues.f k a0 a1=some (r1,r2,r3)):
  Calls Tryz.prog 18 #[.int .i64 a0,.int .i64 a1] w fun e w'=>e=.returned (.tuple #[.agg #[.int .i64 r1,.int .i64 r2],.bool r3])∧Below w.heap.size w w':=by
 have hu25:=Tryz.underlying25;have HB:=qA (Below.refl w.heap.size w);have H:((spec_l9Size.f a0).bind fun t423=>(if t423=true then ((spec_l1In.f a1 1 6).bind fun t424=>(spec_ChanceQueues.j0 k a0 a1 (!t424))) else (spec_ChanceQueues.j0 k a0 a1 true)))=some (r1,r2,r3):=h;clear h;have HC3:=qA H;clear H;go_enter Tryz.func18,Tryz.ntmps18
 go_upto_region 1 with (first|((with_reducible refine gate_dst (N:=4) rfl ?_);refine box_event ?hg (N:=4) ?hd (cs:= #[.int .i64 0,.int .i64 0]) (t:=25) ?hr ?_;(case hd=>rfl);(case hg=>rfl);(case hr=>first|(go_simp;done)|(go_simp;rfl));intro gb422 hg w4 hbox hb;have n0_:=qA (below_step qy33 hb);have n1_:=qA (hbox);have n2_:=qA ((by rw [hg];exact (below_size qy33):w.heap.size≤gb422));have n3_:=qA ((by rw [hg];exact (below_size qy33):w.heap.size≤gb422));clear HB;have HB:=n0_;have BK422:=n1_;have GW422:=n2_;have GE422:=n3_;clear n0_ n1_ n2_ n3_;clear hb hbox hg))
 (try simp only [Act.put,List.setIfInBounds_toArray,List.set_cons_zero,List.set_cons_succ])
 go_cut [16] (fun v16 wc=>∃ (kq:Nat) (x16_2:Bool),v16=.bool x16_2∧Aside0 (spec_ChanceQueues.j0 kq a0 a1 x16_2=some (r1,r2,r3))∧Aside0 (kq≤k)∧Aside0 (wc.heap[gb422]? =some (.cells #[.int .i64 0,.int .i64 0] 25 (0,0)))∧Aside0 (Below w.heap.size w wc))
 case first=>
  have H:=HC3.out;clear HC3;replace H:=Option.bind_eq_some_iff.mp H;obtain ⟨t423,A50,H⟩:=H;replace H:(if t423=true then ((spec_l1In.f a1 1 6).bind fun t424=>(spec_ChanceQueues.j0 k a0 a1 (!t424))) else (spec_ChanceQueues.j0 k a0 a1 true))=some (r1,r2,r3):=H;have A5:=qA A50;clear A50;by_cases c6:t423=true
  ·subst c6;have H1:((spec_l1In.f a1 1 6).bind fun t424=>(spec_ChanceQueues.j0 k a0 a1 (!t424)))=some (r1,r2,r3):=by rw [if_pos rfl] at H;exact H
   clear H;have H:=H1;clear H1;replace H:=Option.bind_eq_some_iff.mp H;obtain ⟨t424,A70,H⟩:=H;replace H:(spec_ChanceQueues.j0 k a0 a1 (!t424))=some (r1,r2,r3):=H;have A7:=qA A70;clear A70;have H':=qA H;clear H
   go_wp2_with (first|((with_reducible refine gate_callee (f:=47) rfl ?_);refine goesL_ (some 10) rfl rfl Tryz.func47 (by kernel_rfl) rfl #[.int .i64 a0] rfl qy29 ?_;(with_reducible refine (spec_l9Size.calls a0 true _ A5.out).mono ?_);rintro e w' ⟨rfl,⟨nd,rfl⟩⟩;refine ⟨_,rfl,?_⟩)|(go_at_call 67;(with_reducible refine (spec_l1In.calls a1 1 6 t424 _ A7.out).mono ?_);rintro e w' ⟨rfl,⟨nd,rfl⟩⟩))
   go_meet
   case rel=>exact ⟨_,(!t424),qy76,H',⟨qy80⟩,⟨qy39⟩,⟨qy16⟩⟩
  ·replace c6:=Bool.eq_false_iff.mpr c6;subst c6;have H1:(spec_ChanceQueues.j0 k a0 a1 true)=some (r1,r2,r3):=by rw [if_neg (show ¬ (false=true) by decide)] at H;exact H
   clear H;have H:=H1;clear H1;have H':=qA H;clear H
   go_wp2_with (first|((with_reducible refine gate_callee (f:=47) rfl ?_);refine goesL_ (some 10) rfl rfl Tryz.func47 (by kernel_rfl) rfl #[.int .i64 a0] rfl qy29 ?_;(with_reducible refine (spec_l9Size.calls a0 false _ A5.out).mono ?_);rintro e w' ⟨rfl,⟨nd,rfl⟩⟩;refine ⟨_,rfl,?_⟩))
   go_meet
   case rel=>exact ⟨_,(true),qy76,H',⟨qy80⟩,⟨qy39⟩,⟨qy16⟩⟩
 case rest=>
  clear HC3
  try clear c1
  try clear p2
  try clear c4
  try clear c6
  obtain ⟨kq,x16_2,rfl,HA,HJ2,BK422,HB⟩:=hcut
  cases kq with
  |zero=>exact absurd HA.out (by simp [spec_ChanceQueues.j0])
  |succ kj2=>
   have H:=HA.out;clear HA;simp only [spec_ChanceQueues.j0] at H;by_cases c8:x16_2=true
   ·subst c8;have H1:(some (0,0,false))=some (r1,r2,r3):=by rw [if_pos rfl] at H;exact H
    clear H;have H:=H1;clear H1;simp only [Option.some.injEq,Prod.mk.injEq] at H;obtain ⟨rfl,rfl,rfl⟩:=H;have hcz9_0:wc.cell? ⟨gb422,0,none⟩=some (.int .i64 0):=(blk_cell BK422.out 0).trans rfl;have hcz9_1:wc.cell? ⟨gb422,1,none⟩=some (.int .i64 0):=(blk_cell BK422.out 1).trans rfl;have hfz9_0:=blk_frozen BK422.out 0;have hfz9_1:=blk_frozen BK422.out 1
    go_wp2
    refine bodyPost_ret (results_ct rfl _ _ gb422 25 #[.int .i64 0,.int .i64 0] (0,0) _ rfl (by (with_reducible repeat (first|refine blk_drewN ?_ _|refine blk_drew ?_|refine blk_alloc ?_ _));refine blk_put (cs:= #[.int .i64 0,.int .i64 0]) ?_ 1 _ rfl;(with_reducible repeat (first|refine blk_drewN ?_ _|refine blk_drew ?_|refine blk_alloc ?_ _));refine blk_put (cs:= #[.int .i64 0,.int .i64 0]) ?_ 0 _ rfl;(with_reducible repeat (first|refine blk_drewN ?_ _|refine blk_drew ?_|refine blk_alloc ?_ _));exact BK422.out) Tryz.underlying25 rfl (by kernel_rfl)) rfl ?_;exact ⟨qy68,qy16⟩
   ·replace c8:=Bool.eq_false_iff.mpr c8;subst c8;have H1:((spec_l2Orders.f kj2 a0).bind fun t425=>(spec_ChanceQueues.l0 kj2 a1 0 t425 0))=some (r1,r2,r3):=by rw [if_neg (show ¬ (false=true) by decide)] at H;exact H
    clear H;have H:=H1;clear H1;replace H:=Option.bind_eq_some_iff.mp H;obtain ⟨t425,A100,H⟩:=H;replace H:(spec_ChanceQueues.l0 kj2 a1 0 t425 0)=some (r1,r2,r3):=H;have A10:=qA A100;clear A100;have H':=qA H;clear H
    go_wp2_with (first|((with_reducible refine gate_callee (f:=48) rfl ?_);refine goesL_ (some 19) rfl rfl Tryz.func48 (by kernel_rfl) rfl #[.int .i64 a0] rfl qy29 ?_;(with_reducible refine (spec_l2Orders.calls kj2 a0 t425 _ A10.out).mono ?_);rintro e w11 ⟨v426,rfl,ho0,hb⟩;refine ⟨_,rfl,?_⟩;have n0_:=qA (Kd.S_lower ho0 (below_size qy16));have n1_:=qA (blk_below (g:=gb422) (o:=.cells #[.int .i64 0,.int .i64 0] 25 (0,0)) qy39 hb);have n2_:=qA (below_step qy16 hb);clear BK422;clear HB;have HO427:=n0_;have BK422:=n1_;have HB:=n2_;clear n0_ n1_ n2_;(try clear hb);(try clear hb2);(try clear hk);(try clear hi);(try clear ho0)))
    go_loopg [6,8] kj2 (fun kq v6 v8 w'=>∃ (x6_2:Int) (x8_2:Int),v6=.int .i64 x6_2∧v8=.int .i64 x8_2∧Aside0 (spec_ChanceQueues.l0 kq a1 x6_2 t425 x8_2=some (r1,r2,r3))∧Aside0 (kq≤kj2)∧Aside0 (Kd.S (Kd.slice 3 (Kd.int .i64)) 36 w' w.heap.size (fun _=>True) v426 t425)∧Aside0 (w'.heap[gb422]? =some (.cells #[.int .i64 0,.int .i64 0] 25 (0,0)))∧Aside0 (Below w.heap.size w w'))
    case atStart=>exact ⟨(0),(0),qy76,qy76,H',⟨Nat.le_refl _⟩,⟨(by (with_reducible repeat (first|apply Kd.S_alloc|apply Kd.S_drewN|apply Kd.S_drew));exact HO427.out)⟩,⟨qy39⟩,⟨qy16⟩⟩
    case round=>
     clear H'
     try clear c1
     try clear p2
     try clear c4
     try clear c6
     try clear c8
     try clear hcz9_0
     try clear hcz9_1
     try clear hfz9_0
     try clear hfz9_1
     try clear p2
     obtain ⟨x6_2,x8_2,rfl,rfl,HA,HK2,HO_7,BK422,HB⟩:=hrel
     cases gk with
     |zero=>exact absurd HA.out (by simp [spec_ChanceQueues.l0])
     |succ k2=>
      have H:=HA.out;clear HA;simp only [spec_ChanceQueues.l0] at H;by_cases c12:x8_2 < (t425.length:Int)
      ·rw [if_pos c12] at H;have c12b0:decide (x8_2 < (t425.length:Int))=true:=decide_eq_true c12;clear c12;by_cases c13:0≤x8_2
       ·rw [if_pos c13] at H;have c13b0:decide (0≤x8_2)=true:=decide_eq_true c13;clear c13;replace H:=Option.bind_eq_some_iff.mp H;obtain ⟨t429,A140,H⟩:=H;replace H:(if (t429.length:Int)=a1 then (spec_ChanceQueues.l0 k2 a1 (wrap64 (x6_2+1)) t425 (wrap64 (x8_2+1))) else (spec_ChanceQueues.l0 k2 a1 x6_2 t425 (wrap64 (x8_2+1))))=some (r1,r2,r3):=H;have A14:=qA A140;clear A140;by_cases c15:(t429.length:Int)=a1
        ·rw [if_pos c15] at H;have c15b0:((t429.length:Int)==a1)=true:=beq_iff_eq.mpr c15;have c15b1:((t429.length:Int) != a1)=false:=bne_eq_false_iff_eq.mpr c15;clear c15;have H':=qA H;clear H;obtain ⟨Ao16,co16,eo16⟩:=Kd.S_slice HO_7.out;subst eo16;have p428:0≤(x8_2:Int):=of_decide_eq_true qy73;have q428:x8_2 < (t425.length:Int):=of_decide_eq_true qy73;obtain ⟨ad428,A428_0,c428_0,e428,hx428_0,hl428_0,hi428_0⟩:=at_L2 (Kd.S_reads' HO_7.out).2.2 x8_2 p428 q428;cases e428;obtain ⟨ce428,hce428,hMe428,hcc428⟩:=Kd.S_get HO_7.out [] x8_2 p428 (by first|exact q428|exact of_decide_eq_true qy73|(have e_:=(Kd.S_reads' HO_7.out).1;omega));obtain ⟨ve428_0,rfl,ge428_0⟩:=hMe428;have hv428_0:=hcc428 0 _ rfl;rw [Nat.add_zero,show ((Kd.slice 3 (Kd.int .i64))).sz=1 from rfl,Nat.mul_one] at hv428_0;replace hv428_0:=Option.some.inj (hv428_0.symm.trans hx428_0);rw [hv428_0] at ge428_0;have HL428_0:=qA (show Kd.R (Kd.int .i64) 3 _ _ _ _ (rd_L2 t425 x8_2) from ge428_0);clear hv428_0 ge428_0;clear hcc428 hce428;have HR428_0:=qA hi428_0;have HC428_0:=qA hl428_0;clear hi428_0 hl428_0;replace p428:=eq_true p428;replace q428:=eq_true q428
         go_wp2_with (first|((with_reducible refine gate_callee (f:=68) rfl ?_);refine goesL_ (some 30) rfl rfl Tryz.func68 (by kernel_rfl) rfl #[.slice A428_0 (rd_L2 t425 x8_2).length c428_0] rfl qy29 ?_;(with_reducible refine (spec_l5Queues.calls k2 _ _ (rd_L2 t425 x8_2) t429 _ ?side1 ?side2 A14.out).mono ?_);(case side1=>repeat (first|exact qy5|(with_reducible refine Kd.C_alloc ?_ _)|(with_reducible refine Kd.C_drewN ?_ _)|(with_reducible refine Kd.C_drew ?_)));(case side2=>exact HC428_0.out);rintro e w17 ⟨v430,rfl,ho0,hb⟩;refine ⟨_,rfl,?_⟩;have n0_:=qA (Kd.S_elder' qy56 (Kd.S_base ho0) hb);have n1_:=qA (Kd.R_below qy45 hb);have n2_:=qA (Kd.S_lower (Kd.S_new' (Kd.S_new' ho0 (Kd.S_lt qy56)) (Kd.R_lt qy45)) (below_size qy16));have n3_:=qA (blk_below (g:=gb422) (o:=.cells #[.int .i64 0,.int .i64 0] 25 (0,0)) qy39 hb);have n4_:=qA (Kd.C_below qy5 hb);have n5_:=qA (below_step qy16 hb);clear HO_7;clear HL428_0;clear BK422;clear HR428_0;clear HB;have HO_7:=n0_;have HL428_0:=n1_;have HO431:=n2_;have BK422:=n3_;have HR428_0:=n4_;have HB:=n5_;clear n0_ n1_ n2_ n3_ n4_ n5_;(try clear hb);(try clear hb2);(try clear hk);(try clear hi);(try clear ho0);obtain ⟨Ao18,co18,eo18⟩:=Kd.S_slice HO431.out;subst eo18))
         go_roundg k2
         case measure=>have:=HJ2.out;have:=HK2.out;omega
         case rel=>exact ⟨(wrap64 (x6_2+1)),(wrap64 (x8_2+1)),qy76,qy76,H',⟨(by have:=HJ2.out;have:=HK2.out;omega)⟩,⟨(by (with_reducible repeat (first|apply Kd.S_alloc|apply Kd.S_drewN|apply Kd.S_drew));exact Kd.S_mono HO_7.out (fun _ hk=>trivial))⟩,⟨qy39⟩,⟨qy16⟩⟩
        ·rw [if_neg c15] at H;have c15b0:((t429.length:Int)==a1)=false:=beq_eq_false_iff_ne.mpr c15;have c15b1:((t429.length:Int) != a1)=true:=bne_iff_ne.mpr c15;have H':=qA H;clear H;obtain ⟨Ao19,co19,eo19⟩:=Kd.S_slice HO_7.out;subst eo19;have p428:0≤(x8_2:Int):=of_decide_eq_true qy73;have q428:x8_2 < (t425.length:Int):=of_decide_eq_true qy73;obtain ⟨ad428,A428_0,c428_0,e428,hx428_0,hl428_0,hi428_0⟩:=at_L2 (Kd.S_reads' HO_7.out).2.2 x8_2 p428 q428;cases e428;obtain ⟨ce428,hce428,hMe428,hcc428⟩:=Kd.S_get HO_7.out [] x8_2 p428 (by first|exact q428|exact of_decide_eq_true qy73|(have e_:=(Kd.S_reads' HO_7.out).1;omega));obtain ⟨ve428_0,rfl,ge428_0⟩:=hMe428;have hv428_0:=hcc428 0 _ rfl;rw [Nat.add_zero,show ((Kd.slice 3 (Kd.int .i64))).sz=1 from rfl,Nat.mul_one] at hv428_0;replace hv428_0:=Option.some.inj (hv428_0.symm.trans hx428_0);rw [hv428_0] at ge428_0;have HL428_0:=qA (show Kd.R (Kd.int .i64) 3 _ _ _ _ (rd_L2 t425 x8_2) from ge428_0);clear hv428_0 ge428_0;clear hcc428 hce428;have HR428_0:=qA hi428_0;have HC428_0:=qA hl428_0;clear hi428_0 hl428_0;replace p428:=eq_true p428;replace q428:=eq_true q428
         go_wp2_with (first|((with_reducible refine gate_callee (f:=68) rfl ?_);refine goesL_ (some 30) rfl rfl Tryz.func68 (by kernel_rfl) rfl #[.slice A428_0 (rd_L2 t425 x8_2).length c428_0] rfl qy29 ?_;(with_reducible refine (spec_l5Queues.calls k2 _ _ (rd_L2 t425 x8_2) t429 _ ?side1 ?side2 A14.out).mono ?_);(case side1=>repeat (first|exact qy5|(with_reducible refine Kd.C_alloc ?_ _)|(with_reducible refine Kd.C_drewN ?_ _)|(with_reducible refine Kd.C_drew ?_)));(case side2=>exact HC428_0.out);rintro e w20 ⟨v430,rfl,ho0,hb⟩;refine ⟨_,rfl,?_⟩;have n0_:=qA (Kd.S_elder' qy56 (Kd.S_base ho0) hb);have n1_:=qA (Kd.R_below qy45 hb);have n2_:=qA (Kd.S_lower (Kd.S_new' (Kd.S_new' ho0 (Kd.S_lt qy56)) (Kd.R_lt qy45)) (below_size qy16));have n3_:=qA (blk_below (g:=gb422) (o:=.cells #[.int .i64 0,.int .i64 0] 25 (0,0)) qy39 hb);have n4_:=qA (Kd.C_below qy5 hb);have n5_:=qA (below_step qy16 hb);clear HO_7;clear HL428_0;clear BK422;clear HR428_0;clear HB;have HO_7:=n0_;have HL428_0:=n1_;have HO431:=n2_;have BK422:=n3_;have HR428_0:=n4_;have HB:=n5_;clear n0_ n1_ n2_ n3_ n4_ n5_;(try clear hb);(try clear hb2);(try clear hk);(try clear hi);(try clear ho0);obtain ⟨Ao21,co21,eo21⟩:=Kd.S_slice HO431.out;subst eo21))
         go_roundg k2
         case measure=>have:=HJ2.out;have:=HK2.out;omega
         case rel=>exact ⟨(x6_2),(wrap64 (x8_2+1)),qy76,qy76,H',⟨(by have:=HJ2.out;have:=HK2.out;omega)⟩,⟨(by (with_reducible repeat (first|apply Kd.S_alloc|apply Kd.S_drewN|apply Kd.S_drew));exact Kd.S_mono HO_7.out (fun _ hk=>trivial))⟩,⟨qy39⟩,⟨qy16⟩⟩
       ·rw [if_neg c13] at H;exact absurd H (by simp)
      ·rw [if_neg c12] at H;have c12b0:decide (x8_2 < (t425.length:Int))=false:=decide_eq_false c12;clear c12;replace H:=Option.bind_eq_some_iff.mp H;obtain ⟨⟨t432,t433⟩,A220,H⟩:=H;replace H:(some (t432,t433,true))=some (r1,r2,r3):=H;have A22:=qA A220;clear A220;simp only [Option.some.injEq,Prod.mk.injEq] at H;obtain ⟨rfl,rfl,rfl⟩:=H;obtain ⟨Ao23,co23,eo23⟩:=Kd.S_slice HO_7.out;subst eo23
       go_wp2_with (first|((with_reducible refine gate_callee (f:=51) rfl ?_);refine goesL_ (some 39) rfl rfl Tryz.func51 (by kernel_rfl) rfl #[.int .i64 x6_2,.int .i64 (t425.length:Int)] rfl qy29 ?_;(with_reducible refine (spec_l9Cut.calls k2 x6_2 (t425.length:Int) t432 t433 _ A22.out).mono ?_);rintro e w24 ⟨rfl,hb⟩;refine ⟨_,rfl,?_⟩;have n0_:=qA (Kd.S_below qy56 hb);have n1_:=qA (blk_below (g:=gb422) (o:=.cells #[.int .i64 0,.int .i64 0] 25 (0,0)) qy39 hb);have n2_:=qA (below_step qy16 hb);clear HO_7;clear BK422;clear HB;have HO_7:=n0_;have BK422:=n1_;have HB:=n2_;clear n0_ n1_ n2_;(try clear hb);(try clear hb2);(try clear hk);(try clear hi);have hcz25_0:w24.cell? ⟨gb422,0,none⟩=some (.int .i64 0):=(blk_cell BK422.out 0).trans rfl;have hcz25_1:w24.cell? ⟨gb422,1,none⟩=some (.int .i64 0):=(blk_cell BK422.out 1).trans rfl;have hfz25_0:=blk_frozen BK422.out 0;have hfz25_1:=blk_frozen BK422.out 1))
       refine bodyPost_ret (results_ct rfl _ _ gb422 25 #[.int .i64 t432,.int .i64 t433] (0,0) _ rfl (by (with_reducible repeat (first|refine blk_drewN ?_ _|refine blk_drew ?_|refine blk_alloc ?_ _));refine blk_put (cs:= #[.int .i64 t432,.int .i64 0]) ?_ 1 _ rfl;(with_reducible repeat (first|refine blk_drewN ?_ _|refine blk_drew ?_|refine blk_alloc ?_ _));refine blk_put (cs:= #[.int .i64 0,.int .i64 0]) ?_ 0 _ rfl;(with_reducible repeat (first|refine blk_drewN ?_ _|refine blk_drew ?_|refine blk_alloc ?_ _));exact BK422.out) Tryz.underlying25 rfl (by kernel_rfl)) rfl ?_;exact ⟨qy68,qy16⟩

end Go.Proofs.YtaoecbpfocillaaGreat.Xdz
