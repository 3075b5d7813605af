-- Written by this session's own program (xprint.py) over the kit's print.py: functions, contracts and rows of the laws of one seat.
import Derived.Test.YtaoecbpfocillaaGreatZoXdz0
import Derived.Test.YtaoecbpfocillaaGreatZoXdz9
import Derived.Test.YtaoecbpfocillaaGreatZoXdz10
namespace Go.Proofs.YtaoecbpfocillaaGreat.Xdz
open Go.RowKit Go.Proofs.YtaoecbpfocillaaGreatW.PrintWords Go.Proofs.YtaoecbpfocillaaGreatW.PrintLast Go.Proofs.YtaoecbpfocillaaGreatW.PrintMore
attribute [local go_sem] max2_int min2_int max_two min_two max_three min_three max_four min_four -- for this text's walks alone
set_option linter.unusedVariables false
set_option linter.unusedSimpArgs false

/-! ### spec_ChanceSorts: function 8 -/
def spec_ChanceSorts.l0:Nat→Int→Int→List (List Int)→Int→Option (Int × Int × Bool)
 |0,_,_,_,_=>none
 |k+1,x0,x4,x5,x6=>if x6 < (x5.length:Int) then (if 0≤x6 then ((spec_l2Sorted.f k x0).bind fun t295=>((spec_l2To.f k (rd_L2 x5 x6) t295).bind fun bt298=>(if bt298.2=true then (spec_ChanceSorts.l0 k x0 (wrap64 (x4+1)) x5 (wrap64 (x6+1))) else (spec_ChanceSorts.l0 k x0 x4 x5 (wrap64 (x6+1)))))) else (none)) else ((spec_l9Cut.f k x4 (x5.length:Int)).bind fun bt292=>(some (bt292.1,bt292.2,true)))
def spec_ChanceSorts.f (k:Nat) (a0:Int):Option (Int × Int × Bool):=(spec_l9Size.f a0).bind fun t288=>(if t288=true then ((spec_l2Orders.f k a0).bind fun t289=>(spec_ChanceSorts.l0 k a0 0 t289 0)) else (some (0,0,false)))
def spec_ChanceSorts.T7:Bool × List (List Nat × List Nat):=(true,[([],[]),([],[]),([0,1],[0,1]),([2],[2]),([],[]),([4],[4]),([3,5,5],[3,5]),([6],[6]),([7],[7]),([7],[7]),([8,6,0,1,2,3,4,5,6,7,8],[8]),([9,10,0,1,2,3,4,5,6,7,8,9,10],[9])])
def spec_ChanceSorts.B7:List Nat:=[0,0,3,7,0,16,63,127,255,255,511,2047]
theorem spec_ChanceSorts.tab7:rtab .any (opsOf Tryz.f8 7)=spec_ChanceSorts.T7:=by kernel_rfl
theorem spec_ChanceSorts.bits7:waitsOk spec_ChanceSorts.T7.2 spec_ChanceSorts.B7=true:=by kernel_rfl
set_option maxHeartbeats 8000000 in
set_option maxRecDepth 100000 in
theorem spec_ChanceSorts.calls (k:Nat) (a0:Int) (r1:Int) (r2:Int) (r3:Bool) (w:World) (h:spec_ChanceSorts.f k a0=some (r1,r2,r3)):
  Calls Tryz.prog 8 #[.int .i64 a0] w fun e w'=>e=.returned (.tuple #[.agg #[.int .i64 r1,.int .i64 r2],.bool r3])∧Below w.heap.size w w':=by
 have hu25:=Tryz.underlying25;have HB:=qA (Below.refl w.heap.size w);have H:((spec_l9Size.f a0).bind fun t288=>(if t288=true then ((spec_l2Orders.f k a0).bind fun t289=>(spec_ChanceSorts.l0 k a0 0 t289 0)) else (some (0,0,false))))=some (r1,r2,r3):=h;clear h;replace H:=Option.bind_eq_some_iff.mp H;obtain ⟨t288,A20,H⟩:=H;replace H:(if t288=true then ((spec_l2Orders.f k a0).bind fun t289=>(spec_ChanceSorts.l0 k a0 0 t289 0)) else (some (0,0,false)))=some (r1,r2,r3):=H;have A2:=qA A20;clear A20;by_cases c3:t288=true
 ·subst c3;have H1:((spec_l2Orders.f k a0).bind fun t289=>(spec_ChanceSorts.l0 k a0 0 t289 0))=some (r1,r2,r3):=by rw [if_pos rfl] at H;exact H
  clear H;have H:=H1;clear H1;replace H:=Option.bind_eq_some_iff.mp H;obtain ⟨t289,A40,H⟩:=H;replace H:(spec_ChanceSorts.l0 k a0 0 t289 0)=some (r1,r2,r3):=H;have A4:=qA A40;clear A40;have H':=qA H;clear H;go_enter Tryz.func8,Tryz.ntmps8
  go_wp2_with (first|((with_reducible refine gate_dst (N:=2) rfl ?_);refine box_event ?hg (N:=2) ?hd (cs:= #[.int .i64 0,.int .i64 0]) (t:=25) ?hr ?_;(case hd=>rfl);(case hg=>rfl);(case hr=>first|(go_simp;done)|(go_simp;rfl));intro gb287 hg w5 hbox hb;have n0_:=qA (below_step qy33 hb);have n1_:=qA (hbox);have n2_:=qA ((by rw [hg];exact (below_size qy33):w.heap.size≤gb287));have n3_:=qA ((by rw [hg];exact (below_size qy33):w.heap.size≤gb287));clear HB;have HB:=n0_;have BK287:=n1_;have GW287:=n2_;have GE287:=n3_;clear n0_ n1_ n2_ n3_;clear hb hbox hg)|((with_reducible refine gate_callee (f:=47) rfl ?_);refine goesL_ (some 10) rfl rfl Tryz.func47 (by kernel_rfl) rfl #[.int .i64 a0] rfl qy29 ?_;(with_reducible refine (spec_l9Size.calls a0 true _ A2.out).mono ?_);rintro e w' ⟨rfl,⟨nd,rfl⟩⟩;refine ⟨_,rfl,?_⟩)|((with_reducible refine gate_callee (f:=48) rfl ?_);refine goesL_ (some 14) rfl rfl Tryz.func48 (by kernel_rfl) rfl #[.int .i64 a0] rfl qy29 ?_;(with_reducible refine (spec_l2Orders.calls k a0 t289 _ A4.out).mono ?_);rintro e w6 ⟨v290,rfl,ho0,hb⟩;refine ⟨_,rfl,?_⟩;have n0_:=qA (Kd.S_lower ho0 (below_size qy20));have n1_:=qA (blk_below (g:=gb287) (o:=.cells #[.int .i64 0,.int .i64 0] 25 (0,0)) qy43 hb);have n2_:=qA (below_step qy20 hb);clear BK287;clear HB;have HO291:=n0_;have BK287:=n1_;have HB:=n2_;clear n0_ n1_ n2_;(try clear hb);(try clear hb2);(try clear hk);(try clear hi);(try clear ho0)))
  go_loopg [4,6] k (fun kq v4 v6 w'=>∃ (x4_1:Int) (x6_1:Int),v4=.int .i64 x4_1∧v6=.int .i64 x6_1∧Aside0 (spec_ChanceSorts.l0 kq a0 x4_1 t289 x6_1=some (r1,r2,r3))∧Aside0 (kq≤k)∧Aside0 (Kd.S (Kd.slice 3 (Kd.int .i64)) 36 w' w.heap.size (fun _=>True) v290 t289)∧Aside0 (w'.heap[gb287]? =some (.cells #[.int .i64 0,.int .i64 0] 25 (0,0)))∧Aside0 (Below w.heap.size w w'))
  case atStart=>exact ⟨(0),(0),qy76,qy76,H',⟨Nat.le_refl _⟩,⟨(by (with_reducible repeat (first|apply Kd.S_alloc|apply Kd.S_drewN|apply Kd.S_drew));exact HO291.out)⟩,⟨qy43⟩,⟨qy20⟩⟩
  case round=>
   clear H'
   try clear p2
   try clear c3
   try clear c4
   obtain ⟨x4_1,x6_1,rfl,rfl,HA,HK1,HO_5,BK287,HB⟩:=hrel
   cases gk with
   |zero=>exact absurd HA.out (by simp [spec_ChanceSorts.l0])
   |succ k1=>
    have H:=HA.out;clear HA;simp only [spec_ChanceSorts.l0] at H;by_cases c7:x6_1 < (t289.length:Int)
    ·rw [if_pos c7] at H;have c7b0:decide (x6_1 < (t289.length:Int))=true:=decide_eq_true c7;clear c7;by_cases c8:0≤x6_1
     ·rw [if_pos c8] at H;have c8b0:decide (0≤x6_1)=true:=decide_eq_true c8;clear c8;replace H:=Option.bind_eq_some_iff.mp H;obtain ⟨t295,A90,H⟩:=H;replace H:((spec_l2To.f k1 (rd_L2 t289 x6_1) t295).bind fun bt298=>(if bt298.2=true then (spec_ChanceSorts.l0 k1 a0 (wrap64 (x4_1+1)) t289 (wrap64 (x6_1+1))) else (spec_ChanceSorts.l0 k1 a0 x4_1 t289 (wrap64 (x6_1+1)))))=some (r1,r2,r3):=H;have A9:=qA A90;clear A90;replace H:=Option.bind_eq_some_iff.mp H;obtain ⟨⟨t298,t299⟩,A100,H⟩:=H;replace H:(if t299=true then (spec_ChanceSorts.l0 k1 a0 (wrap64 (x4_1+1)) t289 (wrap64 (x6_1+1))) else (spec_ChanceSorts.l0 k1 a0 x4_1 t289 (wrap64 (x6_1+1))))=some (r1,r2,r3):=H;have A10:=qA A100;clear A100;by_cases c11:t299=true
      ·subst c11;have H1:(spec_ChanceSorts.l0 k1 a0 (wrap64 (x4_1+1)) t289 (wrap64 (x6_1+1)))=some (r1,r2,r3):=by rw [if_pos rfl] at H;exact H
       clear H;have H:=H1;clear H1;have H':=qA H;clear H;obtain ⟨Ao12,co12,eo12⟩:=Kd.S_slice HO_5.out;subst eo12
       try go_wp2
       have n0_:=qA (Kd.S_drew HO_5.out);have n1_:=qA (blk_drew BK287.out);have n2_:=qA (below_drew1 HB.out);clear HO_5;clear BK287;clear HB;have HO_5:=n0_;have BK287:=n1_;have HB:=n2_;clear n0_ n1_ n2_;have p294:0≤(x6_1:Int):=of_decide_eq_true qy73;have q294:x6_1 < (t289.length:Int):=of_decide_eq_true qy73;obtain ⟨ad294,A294_0,c294_0,e294,hx294_0,hl294_0,hi294_0⟩:=at_L2 (Kd.S_reads' HO_5.out).2.2 x6_1 p294 q294;cases e294;obtain ⟨ce294,hce294,hMe294,hcc294⟩:=Kd.S_get HO_5.out [] x6_1 p294 (by first|exact q294|exact of_decide_eq_true qy73|(have e_:=(Kd.S_reads' HO_5.out).1;omega));obtain ⟨ve294_0,rfl,ge294_0⟩:=hMe294;have hv294_0:=hcc294 0 _ rfl;rw [Nat.add_zero,show ((Kd.slice 3 (Kd.int .i64))).sz=1 from rfl,Nat.mul_one] at hv294_0;replace hv294_0:=Option.some.inj (hv294_0.symm.trans hx294_0);rw [hv294_0] at ge294_0;have HL294_0:=qA (show Kd.R (Kd.int .i64) 3 _ _ _ _ (rd_L2 t289 x6_1) from ge294_0);clear hv294_0 ge294_0;clear hcc294 hce294;have HR294_0:=qA hi294_0;have HC294_0:=qA hl294_0;clear hi294_0 hl294_0;replace p294:=eq_true p294;replace q294:=eq_true q294;refine start_ (n:=12) (S:=fun w'=>w'.cell? (ad294.add (x6_1).toNat)=some (.slice A294_0 (rd_L2 t289 x6_1).length c294_0)) (ds:=[]) #[false,false,false,false,false,false,false,false,false,false,false,false] (by kernel_rfl) rfl rfl (hx294_0) (fun hHeld=>?_);refine with_tabW spec_ChanceSorts.tab7 spec_ChanceSorts.bits7 (fun HT_ HW_=>?_);generalize wr.drew=w13 at HO_5 BK287 HB HL294_0 HR294_0 hx294_0 hHeld ⊢;refine pU 0 (some 22) rfl rfl ?_;refine pU 1 (some 23) rfl rfl ?_;refine pU 2 (some 24) rfl rfl ?_;refine pU 4 (some 26) rfl rfl ?_;refine tK1 3 (some 25) rfl rfl ?_ hHeld;refine one_ (i:=5) (N:=some 27) #[true,true,true,true,true,true,false,false,false,false,false,false] rfl rfl (one_of HT_.out (by kernel_rfl)) (by decide) (fun K hK=>?_);refine goes_ Tryz.func50 (by kernel_rfl) rfl #[.int .i64 a0] (by rfl) rfl rfl qy29 ?_
       with_reducible refine (spec_l2Sorted.calls k1 a0 t295 _ A9.out).mono ?_
       rintro e w14 ⟨v296,rfl,ho0,hb⟩;have HS0_:=(hb.cell (World.block_lt_of_cell? _ _ (hHeld))).trans (hHeld);refine ⟨_,rfl,?_⟩;have n0_:=qA (Kd.S_elder' qy58 (Kd.R_base ho0) hb);have n1_:=qA (Kd.R_elder' qy47 (Kd.R_base ho0) hb);have n2_:=qA (Kd.R_lower (Kd.R_new' ho0 (Kd.R_lt qy47)) (below_size qy20));have n3_:=qA (blk_below (g:=gb287) (o:=.cells #[.int .i64 0,.int .i64 0] 25 (0,0)) qy43 hb);have n4_:=qA (Kd.C_below qy7 hb);have n5_:=qA (below_step qy20 hb);clear HO_5;clear HL294_0;clear BK287;clear HR294_0;clear HB;have HO_5:=n0_;have HL294_0:=n1_;have HO297:=n2_;have BK287:=n3_;have HR294_0:=n4_;have HB:=n5_;clear n0_ n1_ n2_ n3_ n4_ n5_
       (try clear hb)
       (try clear hb2)
       (try clear hk)
       (try clear hi)
       (try clear ho0)
       obtain ⟨Ao15,co15,eo15⟩:=Kd.R_slice HO297.out
       (first|subst eo15|(injection eo15 with f1_ f2_ f3_;have f4_:=f1_.symm;have f5_:=f3_.symm;clear f1_ f2_ f3_;subst f4_;subst f5_))
       refine hK.out _ _ (HS0_) (fun hHeld=>?_);clear hK K;refine norm_ (a':=?_) ?_ ?_;rotate_left
       ·show Act.put _ (some 27) _=_
        simp only [Act.put,List.setIfInBounds_toArray,List.set_cons_zero,List.set_cons_succ,i64_w,i32_w];rfl
       refine one_ (i:=6) (N:=some 28) #[true,true,true,true,true,true,true,false,false,false,false,false] rfl rfl (one_of HT_.out (by kernel_rfl)) (by decide) (fun K hK=>?_);refine goes_ Tryz.func49 (by kernel_rfl) rfl #[.slice A294_0 (rd_L2 t289 x6_1).length c294_0,.slice Ao15 t295.length co15] (by rfl) rfl rfl qy29 ?_
       with_reducible refine (spec_l2To.calls k1 _ _ (rd_L2 t289 x6_1) _ _ t295 t298 true _ ?side1 ?side2 ?side3 ?side4 A10.out).mono ?_
       (case side1=>repeat (first|exact qy7|(with_reducible refine Kd.C_alloc ?_ _)|(with_reducible refine Kd.C_drewN ?_ _)|(with_reducible refine Kd.C_drew ?_)))
       (case side2=>exact HC294_0.out)
       (case side3=>repeat (first|exact (Kd.R_reads' HO297.out).2.2|(with_reducible refine Kd.C_alloc ?_ _)|(with_reducible refine Kd.C_drewN ?_ _)|(with_reducible refine Kd.C_drew ?_)))
       (case side4=>exact (Kd.R_reads' HO297.out).2.1)
       rintro e w16 ⟨rfl,hb⟩;have HS0_:=(hb.cell (World.block_lt_of_cell? _ _ (hHeld))).trans (hHeld);refine ⟨_,rfl,?_⟩;have n0_:=qA (Kd.S_below qy58 hb);have n1_:=qA (Kd.R_below qy47 hb);have n2_:=qA (Kd.R_below (by (with_reducible repeat (first|apply Kd.R_alloc|apply Kd.R_drewN|apply Kd.R_drew));exact HO297.out) hb);have n3_:=qA (blk_below (g:=gb287) (o:=.cells #[.int .i64 0,.int .i64 0] 25 (0,0)) qy43 hb);have n4_:=qA (Kd.C_below qy7 hb);have n5_:=qA (below_step qy20 hb);clear HO_5;clear HL294_0;clear HO297;clear BK287;clear HR294_0;clear HB;have HO_5:=n0_;have HL294_0:=n1_;have HO297:=n2_;have BK287:=n3_;have HR294_0:=n4_;have HB:=n5_;clear n0_ n1_ n2_ n3_ n4_ n5_
       (try clear hb)
       (try clear hb2)
       (try clear hk)
       (try clear hi)
       refine hK.out _ _ (HS0_) (fun hHeld=>?_);clear hK K;refine norm_ (a':=?_) ?_ ?_;rotate_left
       ·show Act.put _ (some 28) _=_
        simp only [Act.put,List.setIfInBounds_toArray,List.set_cons_zero,List.set_cons_succ,i64_w,i32_w];rfl
       refine pU 7 (some 21) rfl rfl ?_;refine pU 8 (some 29) rfl rfl ?_;refine pU 9 (some 30) rfl rfl ?_;refine pU 10 (some 7) rfl rfl ?_;refine pU 11 (some 8) rfl rfl ?_;refine done_ (done_of HT_.out (by kernel_rfl)) ?_
       try go_wp2
       go_roundg k1
       case measure=>have:=HK1.out;omega
       case rel=>exact ⟨(wrap64 (x4_1+1)),(wrap64 (x6_1+1)),qy76,qy76,H',⟨qy81⟩,⟨qy30⟩,⟨qy43⟩,⟨qy20⟩⟩
      ·replace c11:=Bool.eq_false_iff.mpr c11;subst c11;have H1:(spec_ChanceSorts.l0 k1 a0 x4_1 t289 (wrap64 (x6_1+1)))=some (r1,r2,r3):=by rw [if_neg (show ¬ (false=true) by decide)] at H;exact H
       clear H;have H:=H1;clear H1;have H':=qA H;clear H;obtain ⟨Ao17,co17,eo17⟩:=Kd.S_slice HO_5.out;subst eo17
       try go_wp2
       have n0_:=qA (Kd.S_drew HO_5.out);have n1_:=qA (blk_drew BK287.out);have n2_:=qA (below_drew1 HB.out);clear HO_5;clear BK287;clear HB;have HO_5:=n0_;have BK287:=n1_;have HB:=n2_;clear n0_ n1_ n2_;have p294:0≤(x6_1:Int):=of_decide_eq_true qy73;have q294:x6_1 < (t289.length:Int):=of_decide_eq_true qy73;obtain ⟨ad294,A294_0,c294_0,e294,hx294_0,hl294_0,hi294_0⟩:=at_L2 (Kd.S_reads' HO_5.out).2.2 x6_1 p294 q294;cases e294;obtain ⟨ce294,hce294,hMe294,hcc294⟩:=Kd.S_get HO_5.out [] x6_1 p294 (by first|exact q294|exact of_decide_eq_true qy73|(have e_:=(Kd.S_reads' HO_5.out).1;omega));obtain ⟨ve294_0,rfl,ge294_0⟩:=hMe294;have hv294_0:=hcc294 0 _ rfl;rw [Nat.add_zero,show ((Kd.slice 3 (Kd.int .i64))).sz=1 from rfl,Nat.mul_one] at hv294_0;replace hv294_0:=Option.some.inj (hv294_0.symm.trans hx294_0);rw [hv294_0] at ge294_0;have HL294_0:=qA (show Kd.R (Kd.int .i64) 3 _ _ _ _ (rd_L2 t289 x6_1) from ge294_0);clear hv294_0 ge294_0;clear hcc294 hce294;have HR294_0:=qA hi294_0;have HC294_0:=qA hl294_0;clear hi294_0 hl294_0;replace p294:=eq_true p294;replace q294:=eq_true q294;refine start_ (n:=12) (S:=fun w'=>w'.cell? (ad294.add (x6_1).toNat)=some (.slice A294_0 (rd_L2 t289 x6_1).length c294_0)) (ds:=[]) #[false,false,false,false,false,false,false,false,false,false,false,false] (by kernel_rfl) rfl rfl (hx294_0) (fun hHeld=>?_);refine with_tabW spec_ChanceSorts.tab7 spec_ChanceSorts.bits7 (fun HT_ HW_=>?_);generalize wr.drew=w18 at HO_5 BK287 HB HL294_0 HR294_0 hx294_0 hHeld ⊢;refine pU 0 (some 22) rfl rfl ?_;refine pU 1 (some 23) rfl rfl ?_;refine pU 2 (some 24) rfl rfl ?_;refine pU 4 (some 26) rfl rfl ?_;refine tK1 3 (some 25) rfl rfl ?_ hHeld;refine one_ (i:=5) (N:=some 27) #[true,true,true,true,true,true,false,false,false,false,false,false] rfl rfl (one_of HT_.out (by kernel_rfl)) (by decide) (fun K hK=>?_);refine goes_ Tryz.func50 (by kernel_rfl) rfl #[.int .i64 a0] (by rfl) rfl rfl qy29 ?_
       with_reducible refine (spec_l2Sorted.calls k1 a0 t295 _ A9.out).mono ?_
       rintro e w19 ⟨v296,rfl,ho0,hb⟩;have HS0_:=(hb.cell (World.block_lt_of_cell? _ _ (hHeld))).trans (hHeld);refine ⟨_,rfl,?_⟩;have n0_:=qA (Kd.S_elder' qy58 (Kd.R_base ho0) hb);have n1_:=qA (Kd.R_elder' qy47 (Kd.R_base ho0) hb);have n2_:=qA (Kd.R_lower (Kd.R_new' ho0 (Kd.R_lt qy47)) (below_size qy20));have n3_:=qA (blk_below (g:=gb287) (o:=.cells #[.int .i64 0,.int .i64 0] 25 (0,0)) qy43 hb);have n4_:=qA (Kd.C_below qy7 hb);have n5_:=qA (below_step qy20 hb);clear HO_5;clear HL294_0;clear BK287;clear HR294_0;clear HB;have HO_5:=n0_;have HL294_0:=n1_;have HO297:=n2_;have BK287:=n3_;have HR294_0:=n4_;have HB:=n5_;clear n0_ n1_ n2_ n3_ n4_ n5_
       (try clear hb)
       (try clear hb2)
       (try clear hk)
       (try clear hi)
       (try clear ho0)
       obtain ⟨Ao20,co20,eo20⟩:=Kd.R_slice HO297.out
       (first|subst eo20|(injection eo20 with f1_ f2_ f3_;have f4_:=f1_.symm;have f5_:=f3_.symm;clear f1_ f2_ f3_;subst f4_;subst f5_))
       refine hK.out _ _ (HS0_) (fun hHeld=>?_);clear hK K;refine norm_ (a':=?_) ?_ ?_;rotate_left
       ·show Act.put _ (some 27) _=_
        simp only [Act.put,List.setIfInBounds_toArray,List.set_cons_zero,List.set_cons_succ,i64_w,i32_w];rfl
       refine one_ (i:=6) (N:=some 28) #[true,true,true,true,true,true,true,false,false,false,false,false] rfl rfl (one_of HT_.out (by kernel_rfl)) (by decide) (fun K hK=>?_);refine goes_ Tryz.func49 (by kernel_rfl) rfl #[.slice A294_0 (rd_L2 t289 x6_1).length c294_0,.slice Ao20 t295.length co20] (by rfl) rfl rfl qy29 ?_
       with_reducible refine (spec_l2To.calls k1 _ _ (rd_L2 t289 x6_1) _ _ t295 t298 false _ ?side1 ?side2 ?side3 ?side4 A10.out).mono ?_
       (case side1=>repeat (first|exact qy7|(with_reducible refine Kd.C_alloc ?_ _)|(with_reducible refine Kd.C_drewN ?_ _)|(with_reducible refine Kd.C_drew ?_)))
       (case side2=>exact HC294_0.out)
       (case side3=>repeat (first|exact (Kd.R_reads' HO297.out).2.2|(with_reducible refine Kd.C_alloc ?_ _)|(with_reducible refine Kd.C_drewN ?_ _)|(with_reducible refine Kd.C_drew ?_)))
       (case side4=>exact (Kd.R_reads' HO297.out).2.1)
       rintro e w21 ⟨rfl,hb⟩;have HS0_:=(hb.cell (World.block_lt_of_cell? _ _ (hHeld))).trans (hHeld);refine ⟨_,rfl,?_⟩;have n0_:=qA (Kd.S_below qy58 hb);have n1_:=qA (Kd.R_below qy47 hb);have n2_:=qA (Kd.R_below (by (with_reducible repeat (first|apply Kd.R_alloc|apply Kd.R_drewN|apply Kd.R_drew));exact HO297.out) hb);have n3_:=qA (blk_below (g:=gb287) (o:=.cells #[.int .i64 0,.int .i64 0] 25 (0,0)) qy43 hb);have n4_:=qA (Kd.C_below qy7 hb);have n5_:=qA (below_step qy20 hb);clear HO_5;clear HL294_0;clear HO297;clear BK287;clear HR294_0;clear HB;have HO_5:=n0_;have HL294_0:=n1_;have HO297:=n2_;have BK287:=n3_;have HR294_0:=n4_;have HB:=n5_;clear n0_ n1_ n2_ n3_ n4_ n5_
       (try clear hb)
       (try clear hb2)
       (try clear hk)
       (try clear hi)
       refine hK.out _ _ (HS0_) (fun hHeld=>?_);clear hK K;refine norm_ (a':=?_) ?_ ?_;rotate_left
       ·show Act.put _ (some 28) _=_
        simp only [Act.put,List.setIfInBounds_toArray,List.set_cons_zero,List.set_cons_succ,i64_w,i32_w];rfl
       refine pU 7 (some 21) rfl rfl ?_;refine pU 8 (some 29) rfl rfl ?_;refine pU 9 (some 30) rfl rfl ?_;refine pU 10 (some 7) rfl rfl ?_;refine pU 11 (some 8) rfl rfl ?_;refine done_ (done_of HT_.out (by kernel_rfl)) ?_
       try go_wp2
       go_roundg k1
       case measure=>have:=HK1.out;omega
       case rel=>exact ⟨(x4_1),(wrap64 (x6_1+1)),qy76,qy76,H',⟨qy81⟩,⟨qy30⟩,⟨qy43⟩,⟨qy20⟩⟩
     ·rw [if_neg c8] at H;exact absurd H (by simp)
    ·rw [if_neg c7] at H;have c7b0:decide (x6_1 < (t289.length:Int))=false:=decide_eq_false c7;clear c7;replace H:=Option.bind_eq_some_iff.mp H;obtain ⟨⟨t292,t293⟩,A220,H⟩:=H;replace H:(some (t292,t293,true))=some (r1,r2,r3):=H;have A22:=qA A220;clear A220;simp only [Option.some.injEq,Prod.mk.injEq] at H;obtain ⟨rfl,rfl,rfl⟩:=H;obtain ⟨Ao23,co23,eo23⟩:=Kd.S_slice HO_5.out;subst eo23
     go_wp2_with (first|((with_reducible refine gate_callee (f:=51) rfl ?_);refine goesL_ (some 37) rfl rfl Tryz.func51 (by kernel_rfl) rfl #[.int .i64 x4_1,.int .i64 (t289.length:Int)] rfl qy29 ?_;(with_reducible refine (spec_l9Cut.calls k1 x4_1 (t289.length:Int) t292 t293 _ A22.out).mono ?_);rintro e w24 ⟨rfl,hb⟩;refine ⟨_,rfl,?_⟩;have n0_:=qA (Kd.S_below qy58 hb);have n1_:=qA (blk_below (g:=gb287) (o:=.cells #[.int .i64 0,.int .i64 0] 25 (0,0)) qy43 hb);have n2_:=qA (below_step qy20 hb);clear HO_5;clear BK287;clear HB;have HO_5:=n0_;have BK287:=n1_;have HB:=n2_;clear n0_ n1_ n2_;(try clear hb);(try clear hb2);(try clear hk);(try clear hi);have hcz25_0:w24.cell? ⟨gb287,0,none⟩=some (.int .i64 0):=(blk_cell BK287.out 0).trans rfl;have hcz25_1:w24.cell? ⟨gb287,1,none⟩=some (.int .i64 0):=(blk_cell BK287.out 1).trans rfl;have hfz25_0:=blk_frozen BK287.out 0;have hfz25_1:=blk_frozen BK287.out 1))
     refine bodyPost_ret (results_ct rfl _ _ gb287 25 #[.int .i64 t292,.int .i64 t293] (0,0) _ rfl (by (with_reducible repeat (first|refine blk_drewN ?_ _|refine blk_drew ?_|refine blk_alloc ?_ _));refine blk_put (cs:= #[.int .i64 t292,.int .i64 0]) ?_ 1 _ rfl;(with_reducible repeat (first|refine blk_drewN ?_ _|refine blk_drew ?_|refine blk_alloc ?_ _));refine blk_put (cs:= #[.int .i64 0,.int .i64 0]) ?_ 0 _ rfl;(with_reducible repeat (first|refine blk_drewN ?_ _|refine blk_drew ?_|refine blk_alloc ?_ _));exact BK287.out) Tryz.underlying25 rfl (by kernel_rfl)) rfl ?_;exact ⟨qy68,qy20⟩
 ·replace c3:=Bool.eq_false_iff.mpr c3;subst c3;have H1:(some (0,0,false))=some (r1,r2,r3):=by rw [if_neg (show ¬ (false=true) by decide)] at H;exact H
  clear H;have H:=H1;clear H1;simp only [Option.some.injEq,Prod.mk.injEq] at H;obtain ⟨rfl,rfl,rfl⟩:=H;go_enter Tryz.func8,Tryz.ntmps8
  go_wp2_with (first|((with_reducible refine gate_dst (N:=2) rfl ?_);refine box_event ?hg (N:=2) ?hd (cs:= #[.int .i64 0,.int .i64 0]) (t:=25) ?hr ?_;(case hd=>rfl);(case hg=>rfl);(case hr=>first|(go_simp;done)|(go_simp;rfl));intro gb287 hg w26 hbox hb;have n0_:=qA (below_step qy33 hb);have n1_:=qA (hbox);have n2_:=qA ((by rw [hg];exact (below_size qy33):w.heap.size≤gb287));have n3_:=qA ((by rw [hg];exact (below_size qy33):w.heap.size≤gb287));clear HB;have HB:=n0_;have BK287:=n1_;have GW287:=n2_;have GE287:=n3_;clear n0_ n1_ n2_ n3_;clear hb hbox hg)|((with_reducible refine gate_callee (f:=47) rfl ?_);refine goesL_ (some 10) rfl rfl Tryz.func47 (by kernel_rfl) rfl #[.int .i64 a0] rfl qy29 ?_;(with_reducible refine (spec_l9Size.calls a0 false _ A2.out).mono ?_);rintro e w' ⟨rfl,⟨nd,rfl⟩⟩;refine ⟨_,rfl,?_⟩;(try (rw [drewN_self w26];generalize hq_:World.drewN w26 _=w26;have n0_:Aside0 (w26.heap[gb287]? =some (.cells #[.int .i64 0,.int .i64 0] 25 (0,0))):=⟨(by rw [← hq_];exact qy43)⟩;have n1_:Aside0 (Below w.heap.size w w26):=⟨(by rw [← hq_];exact qy20)⟩;clear BK287 HB hq_;have BK287:=n0_;have HB:=n1_;clear n0_ n1_));have hcz27_0:w26.cell? ⟨gb287,0,none⟩=some (.int .i64 0):=(blk_cell BK287.out 0).trans rfl;have hcz27_1:w26.cell? ⟨gb287,1,none⟩=some (.int .i64 0):=(blk_cell BK287.out 1).trans rfl;have hfz27_0:=blk_frozen BK287.out 0;have hfz27_1:=blk_frozen BK287.out 1))
  refine bodyPost_ret (results_ct rfl _ _ gb287 25 #[.int .i64 0,.int .i64 0] (0,0) _ rfl (by (with_reducible repeat (first|refine blk_drewN ?_ _|refine blk_drew ?_|refine blk_alloc ?_ _));refine blk_put (cs:= #[.int .i64 0,.int .i64 0]) ?_ 1 _ rfl;(with_reducible repeat (first|refine blk_drewN ?_ _|refine blk_drew ?_|refine blk_alloc ?_ _));refine blk_put (cs:= #[.int .i64 0,.int .i64 0]) ?_ 0 _ rfl;(with_reducible repeat (first|refine blk_drewN ?_ _|refine blk_drew ?_|refine blk_alloc ?_ _));exact BK287.out) Tryz.underlying25 rfl (by kernel_rfl)) rfl ?_;exact ⟨qy68,qy20⟩

end Go.Proofs.YtaoecbpfocillaaGreat.Xdz
