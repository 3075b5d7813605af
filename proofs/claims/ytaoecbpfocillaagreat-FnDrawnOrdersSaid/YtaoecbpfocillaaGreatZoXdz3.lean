-- Written by this session's own program (xprint.py) over the kit's print.py: functions, contracts and rows of the laws of one seat.
import Derived.Test.YtaoecbpfocillaaGreatZoXdz0
namespace Go.Proofs.YtaoecbpfocillaaGreat.Xdz
open Go.RowKit Go.Proofs.YtaoecbpfocillaaGreatW.PrintWords Go.Proofs.YtaoecbpfocillaaGreatW.PrintLast Go.Proofs.YtaoecbpfocillaaGreatW.PrintMore
attribute [local go_sem] max2_int min2_int max_two min_two max_three min_three max_four min_four -- for this text's walks alone
set_option linter.unusedVariables false
set_option linter.unusedSimpArgs false

theorem own_eqXdz3 {A:Option Addr} {n m c c' k:Nat} (h:some k≠(Value.slice A n c).ownBlock):some k≠(Value.slice A m c').ownBlock:=by cases A<;>exact h

/-! ### impl_runWord: function 81 -/
def impl_runWord.l0:Nat→List Int→ByteArray→List Int→List Int→Int→Int→Option (List Int)
 |0,_,_,_,_,_,_=>none
 |k+1,x0,x1,x5,x6,x11,x12=>if x12 < x11 then (if 0≤x12 then (if x12 < (x1.size:Int) then (if (bt x1 x12)=73 then (if 0 < (x0.length:Int) then (if x5.length < 17592186044416 then (if 1≤(x0.length:Int) then (impl_runWord.l0 k (x0.drop 1) x1 (x5++[rd x0 0]) x6 x11 (wrap64 (x12+1))) else (none)) else (none)) else (none)) else (if 0≤(wrap64 ((x5.length:Int) - 1)) then (if (wrap64 ((x5.length:Int) - 1)) < (x5.length:Int) then (if x6.length < 17592186044416 then (if (wrap64 ((x5.length:Int) - 1))≤(x5.length:Int) then (impl_runWord.l0 k x0 x1 (x5.take ((wrap64 ((x5.length:Int) - 1)):Int).toNat) (x6++[rd x5 (wrap64 ((x5.length:Int) - 1))]) x11 (wrap64 (x12+1))) else (none)) else (none)) else (none)) else (none))) else (none)) else (none)) else (some x6)
def impl_runWord.f (k:Nat) (l0:List Int) (a1:ByteArray):Option (List Int):=impl_runWord.l0 k l0 a1 (([]:List Int)) (([]:List Int)) (a1.size:Int) 0
theorem impl_runWord.mono_l:∀ k,(∀ y0 y1 y2 y3 y4 y5,LeO (impl_runWord.l0 k y0 y1 y2 y3 y4 y5) (impl_runWord.l0 (k+1) y0 y1 y2 y3 y4 y5))
 |0=>fun _ _ _ _ _ _ r h=>by simp [impl_runWord.l0] at h
 |k+1=>by
  have ih0:=impl_runWord.mono_l k
  ·intro y0 y1 y2 y3 y4 y5;unfold impl_runWord.l0
   repeat' first
   |(with_reducible exact ih0 _ _ _ _ _ _)
   |(with_reducible exact LeO.refl _)
   |(with_reducible exact LeO.none _)
   |(with_reducible refine LeO.ite ?_ ?_)
   |(with_reducible refine LeO.bind ?_ (fun _=>?_))
   |exact ih0 _ _ _ _ _ _
   |exact LeO.none _
   |refine LeO.ite ?_ ?_
   |refine LeO.bind ?_ (fun _=>?_)
theorem impl_runWord.mono:∀ a0 a1 k,LeO (impl_runWord.f k a0 a1) (impl_runWord.f (k+1) a0 a1):=by
 intro a0 a1 k;have ih0:=impl_runWord.mono_l k;unfold impl_runWord.f
 repeat' first
   |(with_reducible exact ih0 _ _ _ _ _ _)
   |(with_reducible exact LeO.refl _)
   |(with_reducible exact LeO.none _)
   |(with_reducible refine LeO.ite ?_ ?_)
   |(with_reducible refine LeO.bind ?_ (fun _=>?_))
   |exact ih0 _ _ _ _ _ _
   |exact LeO.none _
   |refine LeO.ite ?_ ?_
   |refine LeO.bind ?_ (fun _=>?_)
def impl_runWord.T6:Bool × List (List Nat × List Nat):=(true,[([],[]),([],[]),([1],[1]),([2],[2]),([3],[3]),([0,4],[0,4]),([],[]),([6],[6]),([5,5,0,1,2,3,4,5],[0,5]),([7,8,0,1,2,3,4,5,6,7,8],[1,6,7])])
def impl_runWord.B6:List Nat:=[0,0,2,6,14,31,0,64,63,511]
theorem impl_runWord.tab6:rtab .any (opsOf Tryz.f81 6)=impl_runWord.T6:=by kernel_rfl
theorem impl_runWord.bits6:waitsOk impl_runWord.T6.2 impl_runWord.B6=true:=by kernel_rfl
def impl_runWord.T7:Bool × List (List Nat × List Nat):=(true,[([],[]),([],[]),([],[]),([2],[2]),([3],[3]),([1,4],[1,4]),([5],[5]),([6],[6]),([0,7],[0,7]),([],[]),([],[]),([10],[10]),([11],[11]),([9,12],[9,12]),([8,8,0,1,2,3,4,5,6,7,8],[0,8]),([13,14,0,1,2,3,4,5,6,7,8,9,10,11,12,13,14],[1,2,9,10,13])])
def impl_runWord.B7:List Nat:=[0,0,0,4,12,30,62,126,255,0,0,1024,3072,7680,511,32767]
theorem impl_runWord.tab7:rtab .any (opsOf Tryz.f81 7)=impl_runWord.T7:=by kernel_rfl
theorem impl_runWord.bits7:waitsOk impl_runWord.T7.2 impl_runWord.B7=true:=by kernel_rfl
set_option maxHeartbeats 8000000 in
set_option maxRecDepth 100000 in
theorem impl_runWord.calls (k:Nat) (P0_:Nat→Prop) (A0:Option Addr) (c0:Nat) (l0:List Int) (a1:ByteArray) (r:List Int) (w:World) (hs0:Kd.V (Kd.int .i64) 3 w w.heap.size (fun k_=>P0_ k_) (.slice A0 l0.length c0) l0) (h:impl_runWord.f k l0 a1=some r):
  Calls Tryz.prog 81 #[.slice A0 l0.length c0,.string a1] w fun e w'=>∃ v0_:Value,e=.returned (v0_)∧Kd.R (Kd.int .i64) 3 w' w.heap.size (fun k_=>(w.heap.size≤k_)) v0_ r∧Below w.heap.size w w':=by
 have HO0:=qA (show Kd.V (Kd.int .i64) 3 w w.heap.size (fun k_=>(P0_ k_∨w.heap.size≤k_)) (.slice A0 l0.length c0) l0 from Kd.V_mono hs0 (fun k_ hk=>.inl hk));have HB:=qA (Below.refl w.heap.size w);have H:(impl_runWord.l0 k l0 a1 (([]:List Int)) (([]:List Int)) (a1.size:Int) 0)=some r:=h;clear h
 obtain ⟨y135,hy135⟩:∃ y_:List Int,y_=(([]:List Int)):=⟨_,rfl⟩
 replace H:(impl_runWord.l0 k l0 a1 y135 (([]:List Int)) (a1.size:Int) 0)=some r:=by first|(rw [hy135];with_reducible exact H)|(have H2_:=(Option.bind_some _ _).symm.trans H;rw [hy135];with_reducible exact H2_)|(have H2_:=(Option.bind_some _ _).symm.trans H;with_reducible exact H2_)|with_reducible exact H|(rw [hy135];exact H)|exact H
 have Ny135:=qA hy135;clear hy135
 obtain ⟨y138,hy138⟩:∃ y_:List Int,y_=(([]:List Int)):=⟨_,rfl⟩
 replace H:(impl_runWord.l0 k l0 a1 y135 y138 (a1.size:Int) 0)=some r:=by first|(rw [hy138];with_reducible exact H)|(have H2_:=(Option.bind_some _ _).symm.trans H;rw [hy138];with_reducible exact H2_)|(have H2_:=(Option.bind_some _ _).symm.trans H;with_reducible exact H2_)|with_reducible exact H|(rw [hy138];exact H)|exact H
 have Ny138:=qA hy138;clear hy138;have H':=qA H;clear H;go_enter Tryz.func81,Tryz.ntmps81
 go_wp2_with (first|((with_reducible refine gate_dst (N:=8) rfl ?_);refine Kd.R_lit (Kd.int .i64) _ 3 ?hg (N:=8) ?hd (xs:=([]:List Int)) (inner:=[]) (ok:=fun _=>True) (okp:=fun _=>True) ?hr ?hp (fun _ hk=>hk) trivial (Below.refl _ _) (Nat.le_refl _) (by simp) ?_;(case hd=>rfl);(case hg=>rfl);(case hr=>first|(go_simp;done)|(go_simp;rfl));(case hp=>exact (Reps.none _ _));intro v136 w3 ho4 hb hg_ hnew_;clear hg_ hnew_;(first|rw [← Ny135.out] at ho4|(simp only [Int.reduceToNat] at ho4;rw [← Ny135.out] at ho4));have n0_:=qA (Kd.V_elder' (by (with_reducible repeat (first|apply Kd.V_alloc|apply Kd.V_drewN|apply Kd.V_drew));exact HO0.out) (Kd.R_base ho4) hb);have n1_:=qA (Kd.R_lower (Kd.R_newM (M:=fun k_=>(w.heap.size≤k_)) ho4 (below_size qy33) (fun k_ h_=>h_)) (below_size qy33));have n2_:=qA (below_step qy33 hb);clear HO0;clear HB;have HO0:=n0_;have HO137:=n1_;have HB:=n2_;clear n0_ n1_ n2_;clear hb ho4)|((with_reducible refine gate_dst (N:=9) rfl ?_);refine Kd.R_lit (Kd.int .i64) _ 3 ?hg (N:=9) ?hd (xs:=([]:List Int)) (inner:=[]) (ok:=fun _=>True) (okp:=fun _=>True) ?hr ?hp (fun _ hk=>hk) trivial (Below.refl _ _) (Nat.le_refl _) (by simp) ?_;(case hd=>rfl);(case hg=>rfl);(case hr=>first|(go_simp;done)|(go_simp;rfl));(case hp=>exact (Reps.none _ _));intro v139 w5 ho6 hb hg_ hnew_;clear hg_ hnew_;(first|rw [← Ny138.out] at ho6|(simp only [Int.reduceToNat] at ho6;rw [← Ny138.out] at ho6));have n0_:=qA (Kd.V_elder' (by (with_reducible repeat (first|apply Kd.V_alloc|apply Kd.V_drewN|apply Kd.V_drew));exact HO0.out) (Kd.R_base ho6) hb);have n1_:=qA (Kd.R_elder' (by (with_reducible repeat (first|apply Kd.R_alloc|apply Kd.R_drewN|apply Kd.R_drew));exact HO137.out) (Kd.R_base ho6) hb);have n2_:=qA (Kd.R_lower (Kd.R_new' (Kd.R_newM (M:=fun k_=>(w.heap.size≤k_)) ho6 (below_size qy33) (fun k_ h_=>h_)) (Kd.R_lt (by (with_reducible repeat (first|apply Kd.R_alloc|apply Kd.R_drewN|apply Kd.R_drew));exact HO137.out))) (below_size qy33));have n3_:=qA (below_step qy33 hb);clear HO0;clear HO137;clear HB;have HO0:=n0_;have HO137:=n1_;have HO140:=n2_;have HB:=n3_;clear n0_ n1_ n2_ n3_;clear hb ho6))
 go_loopg [0,5,6,12] k (fun kq v0 v5 v6 v12 w'=>∃ (x0_1:List Int) (x5_1:List Int) (x6_1:List Int) (x12_1:Int),v12=.int .i64 x12_1∧Aside0 (impl_runWord.l0 kq x0_1 a1 x5_1 x6_1 (a1.size:Int) x12_1=some r)∧Aside0 (kq≤k)∧Aside0 (Kd.V (Kd.int .i64) 3 w' w.heap.size (fun k_=>(P0_ k_∨w.heap.size≤k_)∧some k_≠(v5:Value).ownBlock∧some k_≠(v6:Value).ownBlock) v0 x0_1)∧Aside0 (Kd.R (Kd.int .i64) 3 w' w.heap.size (fun k_=>(w.heap.size≤k_)∧some k_≠(v6:Value).ownBlock) v5 x5_1)∧Aside0 (Kd.R (Kd.int .i64) 3 w' w.heap.size (fun k_=>(w.heap.size≤k_)∧some k_≠(v5:Value).ownBlock) v6 x6_1)∧Aside0 (Below w.heap.size w w'))
 case atStart=>exact ⟨(l0),(y135),(y138),(0),qy76,H',⟨Nat.le_refl _⟩,⟨(by (with_reducible repeat (first|apply Kd.V_alloc|apply Kd.V_drewN|apply Kd.V_drew));exact Kd.V_mono HO0.out (fun _ hk=>⟨hk.1.1,⟨hk.1.2,hk.2⟩⟩))⟩,⟨(by (with_reducible repeat (first|apply Kd.R_alloc|apply Kd.R_drewN|apply Kd.R_drew));exact Kd.R_mono HO137.out (fun _ hk=>⟨hk.1.1,hk.2⟩))⟩,⟨(by (with_reducible repeat (first|apply Kd.R_alloc|apply Kd.R_drewN|apply Kd.R_drew));exact Kd.R_mono HO140.out (fun _ hk=>⟨hk.1.1,hk.2⟩))⟩,⟨qy33⟩⟩
 case round=>
  clear H'
  try clear p2
  obtain ⟨x0_1,x5_1,x6_1,x12_1,rfl,HA,HK1,HO_0,HO_5,HO_6,HB⟩:=hrel
  cases gk with
  |zero=>exact absurd HA.out (by simp [impl_runWord.l0])
  |succ k1=>
   have H:=HA.out;clear HA;simp only [impl_runWord.l0] at H;by_cases c7:x12_1 < (a1.size:Int)
   ·rw [if_pos c7] at H;have c7b0:decide (x12_1 < (a1.size:Int))=true:=decide_eq_true c7;clear c7;by_cases c8:0≤x12_1
    ·rw [if_pos c8] at H;have c8b0:decide (0≤x12_1)=true:=decide_eq_true c8;clear c8;by_cases c9:x12_1 < (a1.size:Int)
     ·rw [if_pos c9] at H;have c9b0:decide (x12_1 < (a1.size:Int))=true:=decide_eq_true c9;clear c9;by_cases c11:(bt a1 x12_1)=73
      ·rw [if_pos c11] at H;have c11b0:((bt a1 x12_1)==73)=true:=beq_iff_eq.mpr c11;have c11b1:((bt a1 x12_1) != 73)=false:=bne_eq_false_iff_eq.mpr c11;clear c11;by_cases c12:0 < (x0_1.length:Int)
       ·rw [if_pos c12] at H;have c12b0:decide (0 < (x0_1.length:Int))=true:=decide_eq_true c12;have c12b1:decide (0 < x0_1.length)=true:=decide_eq_true (by omega);clear c12;by_cases c13:x5_1.length < 17592186044416
        ·rw [if_pos c13] at H;have LMc13:=qA c13;clear c13
         obtain ⟨y142,hy142⟩:∃ y_:List Int,y_=(x5_1++[rd x0_1 0]):=⟨_,rfl⟩
         replace H:(if 1≤(x0_1.length:Int) then (impl_runWord.l0 k1 (x0_1.drop 1) a1 y142 x6_1 (a1.size:Int) (wrap64 (x12_1+1))) else (none))=some r:=by first|(rw [hy142];with_reducible exact H)|(have H2_:=(Option.bind_some _ _).symm.trans H;rw [hy142];with_reducible exact H2_)|(have H2_:=(Option.bind_some _ _).symm.trans H;with_reducible exact H2_)|with_reducible exact H|(rw [hy142];exact H)|exact H
         have Ny142:=qA hy142;clear hy142;by_cases c14:1≤(x0_1.length:Int)
         ·rw [if_pos c14] at H;have c14b0:=eq_true c14;have c14b1:decide (1≤(x0_1.length:Int))=true:=decide_eq_true c14;clear c14
          obtain ⟨y145,hy145⟩:∃ y_:List Int,y_=(x0_1.drop 1):=⟨_,rfl⟩
          replace H:(impl_runWord.l0 k1 y145 a1 y142 x6_1 (a1.size:Int) (wrap64 (x12_1+1)))=some r:=by first|(rw [hy145];with_reducible exact H)|(have H2_:=(Option.bind_some _ _).symm.trans H;rw [hy145];with_reducible exact H2_)|(have H2_:=(Option.bind_some _ _).symm.trans H;with_reducible exact H2_)|with_reducible exact H|(rw [hy145];exact H)|exact H
          have Ny145:=qA hy145;clear hy145;have H':=qA H;clear H;have p10:0≤(x12_1:Int):=of_decide_eq_true qy73;have q10:x12_1 < (a1.size:Int):=of_decide_eq_true qy73;have hx10:=bt_at a1 x12_1;replace p10:=eq_true p10;replace q10:=eq_true q10
          try go_wp2
          have n0_:=qA (Kd.V_drew HO_0.out);have n1_:=qA (Kd.R_drew HO_5.out);have n2_:=qA (Kd.R_drew HO_6.out);have n3_:=qA (below_drew1 HB.out);clear HO_0;clear HO_5;clear HO_6;clear HB;have HO_0:=n0_;have HO_5:=n1_;have HO_6:=n2_;have HB:=n3_;clear n0_ n1_ n2_ n3_;obtain ⟨Ao16,co16,eo16⟩:=Kd.V_slice HO_0.out
          (first|subst eo16|(injection eo16 with f1_ f2_ f3_;have f4_:=f1_.symm;have f5_:=f3_.symm;clear f1_ f2_ f3_;subst f4_;subst f5_))
          have p141:0≤(0:Int):=(by omega)
          have q141:0 < (x0_1.length:Int):=of_decide_eq_true qy73;obtain ⟨ad141,e141,hx141_0⟩:=Kd.at_int (Kd.V_reads' HO_0.out).2.2 0 p141 q141;cases e141;have qi141:(0 < x0_1.length)=True:=eq_true (by omega)
          (try rw [show ((0:Int)).toNat=0 from rfl] at hx141_0)
          (try rw [Addr.add_zero'] at hx141_0)
          replace p141:=eq_true p141;replace q141:=eq_true q141;have q17:(1:Int)≤((x0_1.length:Int):Int):=of_decide_eq_true qy73;obtain ⟨i017,hi017,_,hsz17,_⟩:=info_parts info3;have hroom17:x0_1.length≤co16:=(Kd.V_reads' HO_0.out).2.1;have hC17:Kd.F (Kd.int .i64) _ _ (some ad141) x0_1.length x0_1:=(Kd.V_at (base:=w.heap.size) HO_0.out).2.2;have hcut17:=cut_from (P:=Tryz.prog) 36 3 .i64 Tryz.underlying36 hi017 1 hsz17 (some ad141) x0_1.length co16 1 (by omega) q17;have hr17:=Kd.F_cut (m:=(1:Int).toNat) (c:=co16) hC17 (by omega) hroom17
          obtain ⟨A17,hA17⟩:∃ A1,A1=(if co16=(1:Int).toNat then (some ad141) else ((some ad141):Option Addr).map (·.add ((1:Int).toNat*1))):=⟨_,rfl⟩
          obtain ⟨c17,hc17⟩:∃ c1,c1=co16 - (1:Int).toNat:=⟨_,rfl⟩
          have hy17:y145.length=x0_1.length - (1:Int).toNat:=(by rw [Ny145.out,List.length_drop]<;>omega)
          rw [show (x0_1).drop (1:Int).toNat=y145 from Ny145.out.symm] at hr17
          replace hr17:Kd.F (Kd.int .i64) _ _ A17 y145.length y145:=(by rw [hA17];exact hr17)
          rw [← hy17,← hA17,← hc17] at hcut17;have HO149:=qA (show Kd.V (Kd.int .i64) 3 _ w.heap.size _ (.slice A17 y145.length c17) y145 from Kd.V_mk (by rw [hy17,hc17];exact Nat.sub_le_sub_right hroom17 _) hr17);have HC149:=qA (show y145.length≤c17 from by rw [hy17,hc17];exact Nat.sub_le_sub_right hroom17 _);clear hr17 hC17 hroom17 hi017 hsz17 hc17;have KY17:=qA hy17;have KA17:=qA hA17;clear hy17 hA17;replace q17:=eq_true q17;refine start_ (n:=10) (S:=fun w'=>w'.cell? ad141=some (.int .i64 (rd x0_1 0))) (ds:=[4]) #[false,false,false,false,false,false,false,false,false,false] (by kernel_rfl) rfl rfl (hx141_0) (fun hHeld=>?_);refine with_tabW impl_runWord.tab6 impl_runWord.bits6 (fun HT_ HW_=>?_);generalize wr.drew=w15 at HO_0 HO_5 HO_6 HB HO149 hx141_0 hHeld ⊢;refine pU 0 (some 19) rfl rfl ?_;refine pU 1 (some 20) rfl rfl ?_;refine pU 2 (some 21) rfl rfl ?_;refine pU 6 (some 25) rfl rfl ?_;refine pU 7 (some 26) rfl rfl ?_;refine tK1 3 (some 22) rfl rfl ?_ hHeld;refine last_ (i:=4) (N:=some 23) #[true,true,true,true,true,false,true,true,false,false] rfl rfl (one_of HT_.out (by kernel_rfl)) (by decide) (fun K hK=>?_);refine value_ (w1:=?_) (v:=?_) (by rfl) rfl ?_ ?_;rotate_left 2
          ·go_simp
           constructor
           ·rfl
           ·rfl
          refine hK.out _ _ ?_;clear hK K;refine norm_ (a':=?_) ?_ ?_;rotate_left
          ·show Act.put _ (some 23) _=_
           simp only [Act.put,List.setIfInBounds_toArray,List.set_cons_zero,List.set_cons_succ,i64_w,i32_w];rfl
          refine one_ (i:=5) (N:=some 24) #[true,true,true,true,true,true,true,true,false,false] rfl rfl (one_of HT_.out (by kernel_rfl)) (by decide) (fun K hK=>?_);refine Kd.R_append_step (Kd.int .i64) (w0:=w) w.heap.size (by rfl) (.tmp 19) (.tmp 23) 36 3 (.int .i64 0) 8 rfl Tryz.underlying36 info3 rfl (by decide) (by omega) u5 x5_1 (rd x0_1 0) [.int .i64 (rd x0_1 0)] (fun k_=>(w.heap.size≤k_)∧some k_≠(u6:Value).ownBlock) (fun _=>False) rfl rfl ?aP (fun _ hk=>hk.elim) ?aF ?aO ?aB ?aS ?aL ?_
          (case aP=>exact rfl)
          (case aB=>exact qy33)
          (case aF=>exact (fun k_ hk=>⟨(Nat.le_trans (below_size qy33) hk),Kd.fresh' (Kd.R_lt qy61) k_ hk⟩))
          (case aO=>exact qy62)
          (case aS=>exact (below_size qy33))
          (case aL=>have:=LMc13.out;omega)
          intro v143 w18 ho hb hg hat;have HS0_:=cell_grown hg (hHeld) (by have hF_:=Kd.V_at HO_0.out;have hk_:=Kd.F_in hF_.2.2 rfl (by have hp_:=of_eq_true p141;have hq_:=of_eq_true q141;omega) (by decide);first|exact hk_.1|exact hk_.2|exact hk_.1.1|exact hk_.1.2|exact hk_.2.1|exact hk_.2.2|exact hk_.1.1.1|exact hk_.1.1.2|exact hk_.1.2.1|exact hk_.1.2.2|exact hk_.2.1.1|exact hk_.2.1.2|exact hk_.2.2.1|exact hk_.2.2.2|exact hk_.1.1.1.1|exact hk_.1.1.1.2|exact hk_.1.1.2.1|exact hk_.1.1.2.2|exact hk_.1.2.1.1|exact hk_.1.2.1.2|exact hk_.1.2.2.1|exact hk_.1.2.2.2|exact hk_.2.1.1.1|exact hk_.2.1.1.2|exact hk_.2.1.2.1|exact hk_.2.1.2.2|exact hk_.2.2.1.1|exact hk_.2.2.1.2|exact hk_.2.2.2.1|exact hk_.2.2.2.2);rw [← Ny142.out] at ho;have n0_:=qA (Kd.V_afterv (ok:=(fun k_=>(P0_ k_∨w.heap.size≤k_)∧some k_≠(u6:Value).ownBlock)) (by (with_reducible repeat (first|apply Kd.V_alloc|apply Kd.V_drewN|apply Kd.V_drew));exact Kd.V_mono HO_0.out (fun _ hk=>⟨⟨qy77,qy74⟩,qy75⟩)) hg hat);have n1_:=qA (Kd.R_after (ok:=(fun k_=>(w.heap.size≤k_))) qy61 hg hat);have n2_:=qA (Kd.V_afterv (ok:=(fun k_=>(P0_ k_∨w.heap.size≤k_)∧some k_≠(u6:Value).ownBlock)) (by (with_reducible repeat (first|apply Kd.V_alloc|apply Kd.V_drewN|apply Kd.V_drew));exact Kd.V_mono HO149.out (fun _ hk=>⟨⟨qy77,qy74⟩,qy75⟩)) hg hat);have n3_:=qA (hb);have n4_:=qA (ho);clear HO_0;clear HO_6;clear HO149;clear HB;clear HO_5;have HO_0:=n0_;have HO_6:=n1_;have HO149:=n2_;have HB:=n3_;have HO144:=n4_;clear n0_ n1_ n2_ n3_ n4_;clear ho hb hg hat;refine hK.out _ _ (HS0_) (fun hHeld=>?_);clear hK K;refine norm_ (a':=?_) ?_ ?_;rotate_left
          ·show Act.put _ (some 24) _=_
           simp only [Act.put,List.setIfInBounds_toArray,List.set_cons_zero,List.set_cons_succ,i64_w,i32_w];rfl
          refine pU 8 (some 5) rfl rfl ?_;refine pU 9 (some 0) rfl rfl ?_;refine done_ (done_of HT_.out (by kernel_rfl)) ?_
          try go_wp2
          go_roundg k1
          case measure=>have:=HK1.out;omega
          case rel=>exact ⟨(y145),(y142),(x6_1),(wrap64 (x12_1+1)),qy76,H',⟨qy81⟩,⟨(by (with_reducible repeat (first|apply Kd.V_alloc|apply Kd.V_drewN|apply Kd.V_drew));exact Kd.V_mono HO149.out (fun _ hk=>⟨hk.1.1,⟨hk.2,hk.1.2⟩⟩))⟩,⟨(by (with_reducible repeat (first|apply Kd.R_alloc|apply Kd.R_drewN|apply Kd.R_drew));exact HO144.out)⟩,⟨qy61⟩,⟨qy33⟩⟩
         ·rw [if_neg c14] at H;exact absurd H (by simp)
        ·rw [if_neg c13] at H;exact absurd H (by simp)
       ·rw [if_neg c12] at H;exact absurd H (by simp)
      ·rw [if_neg c11] at H;have c11b0:((bt a1 x12_1)==73)=false:=beq_eq_false_iff_ne.mpr c11;have c11b1:((bt a1 x12_1) != 73)=true:=bne_iff_ne.mpr c11
       obtain ⟨ji19,hji19⟩:∃ j_:Int,(wrap64 ((x5_1.length:Int) - 1))=j_:=⟨_,rfl⟩
       replace H:(if 0≤(ji19) then (if (ji19) < (x5_1.length:Int) then (if x6_1.length < 17592186044416 then (if (ji19)≤(x5_1.length:Int) then (impl_runWord.l0 k1 x0_1 a1 (x5_1.take ((ji19):Int).toNat) (x6_1++[rd x5_1 (ji19)]) (a1.size:Int) (wrap64 (x12_1+1))) else (none)) else (none)) else (none)) else (none))=some r:=by first|(rw [hji19] at H;exact H)|(simp only [hji19] at H ⊢;exact H)
       have hji19w:(IntKind.i64.wrap ((x5_1.length:Int) - 1))=ji19:=(i64_w _).trans hji19;by_cases c20:0≤(ji19)
       ·rw [if_pos c20] at H;have c20b0:decide (0≤(ji19))=true:=decide_eq_true c20;clear c20;by_cases c21:(ji19) < (x5_1.length:Int)
        ·rw [if_pos c21] at H;have c21b0:decide ((ji19) < (x5_1.length:Int))=true:=decide_eq_true c21;clear c21;by_cases c22:x6_1.length < 17592186044416
         ·rw [if_pos c22] at H;have LMc22:=qA c22;clear c22
          obtain ⟨y151,hy151⟩:∃ y_:List Int,y_=(x6_1++[rd x5_1 (ji19)]):=⟨_,rfl⟩
          replace H:(if (ji19)≤(x5_1.length:Int) then (impl_runWord.l0 k1 x0_1 a1 (x5_1.take ((ji19):Int).toNat) y151 (a1.size:Int) (wrap64 (x12_1+1))) else (none))=some r:=by first|(rw [hy151];with_reducible exact H)|(have H2_:=(Option.bind_some _ _).symm.trans H;rw [hy151];with_reducible exact H2_)|(have H2_:=(Option.bind_some _ _).symm.trans H;with_reducible exact H2_)|with_reducible exact H|(rw [hy151];exact H)|exact H
          have Ny151:=qA hy151;clear hy151;by_cases c23:(ji19)≤(x5_1.length:Int)
          ·rw [if_pos c23] at H;have c23b0:=eq_true c23;have c23b1:decide ((ji19)≤(x5_1.length:Int))=true:=decide_eq_true c23;clear c23
           obtain ⟨y154,hy154⟩:∃ y_:List Int,y_=(x5_1.take ((ji19):Int).toNat):=⟨_,rfl⟩
           replace H:(impl_runWord.l0 k1 x0_1 a1 y154 y151 (a1.size:Int) (wrap64 (x12_1+1)))=some r:=by first|(rw [hy154];with_reducible exact H)|(have H2_:=(Option.bind_some _ _).symm.trans H;rw [hy154];with_reducible exact H2_)|(have H2_:=(Option.bind_some _ _).symm.trans H;with_reducible exact H2_)|with_reducible exact H|(rw [hy154];exact H)|exact H
           have Ny154:=qA hy154;clear hy154;have H':=qA H;clear H;have p10:0≤(x12_1:Int):=of_decide_eq_true qy73;have q10:x12_1 < (a1.size:Int):=of_decide_eq_true qy73;have hx10:=bt_at a1 x12_1;replace p10:=eq_true p10;replace q10:=eq_true q10
           try go_wp2
           have n0_:=qA (Kd.V_drew HO_0.out);have n1_:=qA (Kd.R_drew HO_5.out);have n2_:=qA (Kd.R_drew HO_6.out);have n3_:=qA (below_drew1 HB.out);clear HO_0;clear HO_5;clear HO_6;clear HB;have HO_0:=n0_;have HO_5:=n1_;have HO_6:=n2_;have HB:=n3_;clear n0_ n1_ n2_ n3_;obtain ⟨Ao25,co25,eo25⟩:=Kd.R_slice HO_5.out
           (first|subst eo25|(injection eo25 with f1_ f2_ f3_;have f4_:=f1_.symm;have f5_:=f3_.symm;clear f1_ f2_ f3_;subst f4_;subst f5_))
           have p150:0≤((ji19):Int):=of_decide_eq_true qy73;have q150:(ji19) < (x5_1.length:Int):=of_decide_eq_true qy73;obtain ⟨ad150,e150,hx150_0⟩:=Kd.at_int (Kd.R_reads' HO_5.out).2.2 (ji19) p150 q150;cases e150;replace p150:=eq_true p150;replace q150:=eq_true q150;have q26:((ji19):Int)≤((x5_1.length:Int):Int):=of_decide_eq_true qy73;obtain ⟨i026,hi026,_,hsz26,_⟩:=info_parts info3;have hcut26:=cut_to (P:=Tryz.prog) 36 3 .i64 Tryz.underlying36 hi026 (some ad150) x5_1.length co25 (ji19) (of_decide_eq_true qy73) q26 (Kd.R_reads' HO_5.out).2.1;have hr26:=Kd.R_take (m:=((ji19):Int).toNat) HO_5.out (by omega)
           have hy26:y154.length=((ji19):Int).toNat:=(by rw [Ny154.out,List.length_take];omega)
           rw [← Ny154.out] at hr26;rw [← hy26] at hr26 hcut26;clear hy26 hi026 hsz26 HO_5;have HO156:=qA hr26;clear hr26;replace q26:=eq_true q26;refine start_ (n:=16) (S:=fun w'=>w'.cell? (ad150.add ((ji19)).toNat)=some (.int .i64 (rd x5_1 (ji19)))) (ds:=[7,8]) #[false,false,false,false,false,false,false,false,false,false,false,false,false,false,false,false] (by kernel_rfl) rfl rfl (hx150_0) (fun hHeld=>?_);refine with_tabW impl_runWord.tab7 impl_runWord.bits7 (fun HT_ HW_=>?_);generalize wr.drew=w24 at HO_0 HO_6 HB HO156 hx150_0 hHeld ⊢;refine pU 0 (some 27) rfl rfl ?_;refine pU 1 (some 28) rfl rfl ?_;refine pU 2 (some 29) rfl rfl ?_;refine pU 3 (some 30) rfl rfl ?_;refine pU 4 (some 31) rfl rfl ?_;refine pU 5 (some 32) rfl rfl ?_;refine pU 9 (some 36) rfl rfl ?_;refine pU 10 (some 37) rfl rfl ?_;refine pU 11 (some 38) rfl rfl ?_;refine pU 12 (some 39) rfl rfl ?_;refine pU 13 (some 40) rfl rfl ?_;refine tK1 6 (some 33) rfl rfl ?_ hHeld;refine last_ (i:=7) (N:=some 34) #[true,true,true,true,true,true,true,true,false,true,true,true,true,true,false,false] rfl rfl (one_of HT_.out (by kernel_rfl)) (by decide) (fun K hK=>?_);refine value_ (w1:=?_) (v:=?_) (by rfl) rfl ?_ ?_;rotate_left 2
           ·go_simp
            constructor
            ·rfl
            ·rfl
           refine hK.out _ _ ?_;clear hK K;refine norm_ (a':=?_) ?_ ?_;rotate_left
           ·show Act.put _ (some 34) _=_
            simp only [Act.put,List.setIfInBounds_toArray,List.set_cons_zero,List.set_cons_succ,i64_w,i32_w];rfl
           refine last_ (i:=8) (N:=some 35) #[true,true,true,true,true,true,true,true,true,true,true,true,true,true,false,false] rfl rfl (one_of HT_.out (by kernel_rfl)) (by decide) (fun K hK=>?_);refine Kd.R_append_step (Kd.int .i64) (w0:=w) w.heap.size (by rfl) (.tmp 27) (.tmp 34) 36 3 (.int .i64 0) 8 rfl Tryz.underlying36 info3 rfl (by decide) (by omega) u6 x6_1 (rd x5_1 (ji19)) [.int .i64 (rd x5_1 (ji19))] (fun k_=>(w.heap.size≤k_)∧some k_≠(.slice (some ad150) y154.length co25:Value).ownBlock) (fun _=>False) rfl rfl ?aP (fun _ hk=>hk.elim) ?aF ?aO ?aB ?aS ?aL ?_
           (case aP=>exact rfl)
           (case aB=>exact qy33)
           (case aF=>exact (fun k_ hk=>⟨(Nat.le_trans (below_size qy33) hk),Kd.fresh' (Kd.R_lt qy54) k_ hk⟩))
           (case aO=>exact qy61)
           (case aS=>exact (below_size qy33))
           (case aL=>have:=LMc22.out;omega)
           intro v152 w27 ho hb hg hat;rw [← Ny151.out] at ho;have n0_:=qA (Kd.V_afterv (ok:=(fun k_=>(P0_ k_∨w.heap.size≤k_)∧some k_≠(.slice (some ad150) y154.length co25:Value).ownBlock)) (by (with_reducible repeat (first|apply Kd.V_alloc|apply Kd.V_drewN|apply Kd.V_drew));exact Kd.V_mono HO_0.out (fun _ hk=>⟨⟨qy77,qy75⟩,qy74⟩)) hg hat);have n1_:=qA (Kd.R_after (ok:=(fun k_=>(w.heap.size≤k_))) qy54 hg hat);have n2_:=qA (hb);have n3_:=qA (ho);clear HO_0;clear HO156;clear HB;clear HO_6;have HO_0:=n0_;have HO156:=n1_;have HB:=n2_;have HO153:=n3_;clear n0_ n1_ n2_ n3_;clear ho hb hg hat;refine hK.out _ _ ?_;clear hK K;refine norm_ (a':=?_) ?_ ?_;rotate_left
           ·show Act.put _ (some 35) _=_
            simp only [Act.put,List.setIfInBounds_toArray,List.set_cons_zero,List.set_cons_succ,i64_w,i32_w];rfl
           refine pU 14 (some 6) rfl rfl ?_;refine pU 15 (some 5) rfl rfl ?_;refine done_ (done_of HT_.out (by kernel_rfl)) ?_
           try go_wp2
           go_roundg k1
           case measure=>have:=HK1.out;omega
           case rel=>exact ⟨(x0_1),(y154),(y151),(wrap64 (x12_1+1)),qy76,H',⟨qy81⟩,⟨(by (with_reducible repeat (first|apply Kd.V_alloc|apply Kd.V_drewN|apply Kd.V_drew));exact Kd.V_mono HO_0.out (fun _ hk=>⟨hk.1.1,⟨hk.1.2,hk.2⟩⟩))⟩,⟨qy54⟩,⟨(by (with_reducible repeat (first|apply Kd.R_alloc|apply Kd.R_drewN|apply Kd.R_drew));exact HO153.out)⟩,⟨qy33⟩⟩
          ·rw [if_neg c23] at H;exact absurd H (by simp)
         ·rw [if_neg c22] at H;exact absurd H (by simp)
        ·rw [if_neg c21] at H;exact absurd H (by simp)
       ·rw [if_neg c20] at H;exact absurd H (by simp)
     ·rw [if_neg c9] at H;exact absurd H (by simp)
    ·rw [if_neg c8] at H;exact absurd H (by simp)
   ·rw [if_neg c7] at H;have c7b0:decide (x12_1 < (a1.size:Int))=false:=decide_eq_false c7;clear c7;obtain rfl:=Option.some.inj H
    go_wp2
    go_ret;exact ⟨_,qy68,(by (with_reducible repeat (first|apply Kd.R_alloc|apply Kd.R_drewN|apply Kd.R_drew));exact Kd.R_mono HO_6.out (fun _ hk=>hk.1)),qy33⟩

end Go.Proofs.YtaoecbpfocillaaGreat.Xdz
