-- Written by this session's own program (xprint.py) over the kit's print.py: functions, contracts and rows of the laws of one seat.
import Derived.Test.YtaoecbpfocillaaGreatZoXdz0
import Derived.Test.YtaoecbpfocillaaGreatZoXdz6
import Derived.Test.YtaoecbpfocillaaGreatZoXdzHdelete
namespace Go.Proofs.YtaoecbpfocillaaGreat.Xdz
open Go.RowKit Go.Proofs.YtaoecbpfocillaaGreatW.PrintWords Go.Proofs.YtaoecbpfocillaaGreatW.PrintLast Go.Proofs.YtaoecbpfocillaaGreatW.PrintMore
attribute [local go_sem] max2_int min2_int max_two min_two max_three min_three max_four min_four -- for this text's walks alone
set_option linter.unusedVariables false
set_option linter.unusedSimpArgs false

/-! ### impl_allOrders: function 127 -/
def impl_allOrders.l0:Nat→Int→List (List Int)→Int→Int→Option ((List (List Int)))
 |0,_,_,_,_=>none
 |k+1,x0,x3,x7,x8=>if x8 < x7 then ((impl_orderAt.f k x0 x8).bind fun t196=>(if x3.length < 5864062014805 then (impl_allOrders.l0 k x0 (x3++[t196]) x7 (wrap64 (x8+1))) else (none))) else (some x3)
def impl_allOrders.f (k:Nat) (a0:Int):Option ((List (List Int))):=(impl_factorial.f k a0).bind fun t195=>(impl_allOrders.l0 k a0 (([]:List (List Int))) t195 0)
set_option maxHeartbeats 8000000 in
set_option maxRecDepth 100000 in
theorem impl_allOrders.calls (k:Nat) (a0:Int) (r:List (List Int)) (w:World) (h:impl_allOrders.f k a0=some r):
  Calls Tryz.prog 127 #[.int .i64 a0] w fun e w'=>∃ v0_:Value,e=.returned (v0_)∧Kd.S (Kd.slice 3 (Kd.int .i64)) 36 w' w.heap.size (fun _=>True) v0_ r∧Below w.heap.size w w':=by
 have HB:=qA (Below.refl w.heap.size w);have H:((impl_factorial.f k a0).bind fun t195=>(impl_allOrders.l0 k a0 (([]:List (List Int))) t195 0))=some r:=h;clear h
 obtain ⟨y192,hy192⟩:∃ y_:List (List Int),y_=(([]:List (List Int))):=⟨_,rfl⟩
 replace H:((impl_factorial.f k a0).bind fun t195=>(impl_allOrders.l0 k a0 y192 t195 0))=some r:=by first|(rw [hy192];with_reducible exact H)|(have H2_:=(Option.bind_some _ _).symm.trans H;rw [hy192];with_reducible exact H2_)|(have H2_:=(Option.bind_some _ _).symm.trans H;with_reducible exact H2_)|with_reducible exact H|(rw [hy192];exact H)|exact H
 have Ny192:=qA hy192;clear hy192;replace H:=Option.bind_eq_some_iff.mp H;obtain ⟨t195,A20,H⟩:=H;replace H:(impl_allOrders.l0 k a0 y192 t195 0)=some r:=H;have A2:=qA A20;clear A20;have H':=qA H;clear H;go_enter Tryz.func127,Tryz.ntmps127
 go_wp2_with (first|((with_reducible refine gate_dst (N:=5) rfl ?_);refine Kd.S_lit (Kd.slice 3 (Kd.int .i64)) _ 36 ?hg (N:=5) ?hd (xs:=([]:List (List Int))) (inner:=[]) (ok:=fun _=>True) (okp:=fun _=>True) ?hr ?hp (fun _ hk=>hk) trivial (Below.refl _ _) (Nat.le_refl _) (by simp) ?_;(case hd=>rfl);(case hg=>rfl);(case hr=>first|(go_simp;done)|(go_simp;rfl));(case hp=>exact (Reps.none _ _));intro v193 w3 ho4 hb hg_ hnew_;clear hg_ hnew_;(first|rw [← Ny192.out] at ho4|(simp only [Int.reduceToNat] at ho4;rw [← Ny192.out] at ho4));have n0_:=qA (Kd.S_lower ho4 (below_size qy33));have n1_:=qA (below_step qy33 hb);clear HB;have HO194:=n0_;have HB:=n1_;clear n0_ n1_;clear hb ho4)|((with_reducible refine gate_callee (f:=141) rfl ?_);refine goesL_ (some 7) rfl rfl Tryz.func141 (by kernel_rfl) rfl #[.int .i64 a0] rfl qy29 ?_;(with_reducible refine (impl_factorial.calls k a0 t195 _ A2.out).mono ?_);rintro e w' ⟨rfl,⟨nd,rfl⟩⟩;refine ⟨_,rfl,?_⟩))
 go_loopg [3,8] k (fun kq v3 v8 w'=>∃ (x3_1:List (List Int)) (x8_1:Int),v8=.int .i64 x8_1∧Aside0 (impl_allOrders.l0 kq a0 x3_1 t195 x8_1=some r)∧Aside0 (kq≤k)∧Aside0 (Kd.S (Kd.slice 3 (Kd.int .i64)) 36 w' w.heap.size (fun _=>True) v3 x3_1)∧Aside0 (Below w.heap.size w w'))
 case atStart=>exact ⟨(y192),(0),qy76,H',⟨Nat.le_refl _⟩,⟨(by (with_reducible repeat (first|apply Kd.S_alloc|apply Kd.S_drewN|apply Kd.S_drew));exact HO194.out)⟩,⟨qy33⟩⟩
 case round=>
  clear H'
  try clear c1
  try clear p2
  obtain ⟨x3_1,x8_1,rfl,HA,HK1,HO_3,HB⟩:=hrel
  cases gk with
  |zero=>exact absurd HA.out (by simp [impl_allOrders.l0])
  |succ k1=>
   have H:=HA.out;clear HA;simp only [impl_allOrders.l0] at H;by_cases c5:x8_1 < t195
   ·rw [if_pos c5] at H;have c5b0:decide (x8_1 < t195)=true:=decide_eq_true c5;clear c5;replace H:=Option.bind_eq_some_iff.mp H;obtain ⟨t196,A60,H⟩:=H;replace H:(if x3_1.length < 5864062014805 then (impl_allOrders.l0 k1 a0 (x3_1++[t196]) t195 (wrap64 (x8_1+1))) else (none))=some r:=H;have A6:=qA A60;clear A60;by_cases c7:x3_1.length < 5864062014805
    ·rw [if_pos c7] at H;have LMc7:=qA c7;clear c7
     obtain ⟨y199,hy199⟩:∃ y_:List (List Int),y_=(x3_1++[t196]):=⟨_,rfl⟩
     replace H:(impl_allOrders.l0 k1 a0 y199 t195 (wrap64 (x8_1+1)))=some r:=by first|(rw [hy199];with_reducible exact H)|(have H2_:=(Option.bind_some _ _).symm.trans H;rw [hy199];with_reducible exact H2_)|(have H2_:=(Option.bind_some _ _).symm.trans H;with_reducible exact H2_)|with_reducible exact H|(rw [hy199];exact H)|exact H
     have Ny199:=qA hy199;clear hy199;have H':=qA H;clear H
     go_wp2_with (first|((with_reducible refine gate_callee (f:=149) rfl ?_);refine goesL_ (some 14) rfl rfl Tryz.func149 (by kernel_rfl) rfl #[.int .i64 a0,.int .i64 x8_1] rfl qy29 ?_;(with_reducible refine (impl_orderAt.calls k1 a0 x8_1 t196 _ A6.out).mono ?_);rintro e w8 ⟨v197,rfl,ho0,hb⟩;refine ⟨_,rfl,?_⟩;have n0_:=qA (Kd.S_elder' qy59 (Kd.R_base ho0) hb);have n1_:=qA (Kd.R_lower ho0 (below_size qy33));have n2_:=qA (below_step qy33 hb);clear HO_3;clear HB;have HO_3:=n0_;have HO198:=n1_;have HB:=n2_;clear n0_ n1_ n2_;(try clear hb);(try clear hb2);(try clear hk);(try clear hi);(try clear ho0);obtain ⟨Ao10,co10,eo10⟩:=Kd.R_slice HO198.out;subst eo10)|((with_reducible refine gate_builtin (b:=.append) (xs:= #[.tmp 11,.tmp 15]) rfl ?_);at_builtin;refine Kd.S_append (Kd.slice 3 (Kd.int .i64)) (w0:=w) w.heap.size rfl (.tmp 11) (.tmp 15) 32 36 (.slice none 0 0) 24 rfl Tryz.underlying32 info36 rfl (by decide) (by omega) u3 x3_1 t196 [.slice Ao10 t196.length co10] (fun _=>True) (fun k_=>some k_=(.slice Ao10 t196.length co10:Value).ownBlock) rfl rfl ?aP (fun k_ hk_=>((Kd.R_mono (ok':=fun k_=>((fun _=>True)) k_∧some k_≠(u3:Value).ownBlock) (Kd.R_apart' (HO198.out) (Kd.S_typed HO_3.out) (by decide)) (fun k_ hk=>⟨trivial,hk.2⟩))).1 k_ hk_.symm) ?aF ?aO ?aB ?aS ?aL ?_;(case aP=>exact Kd.M_row (Kd.R_mono (Kd.R_tight rfl (Kd.R_mono (ok':=fun k_=>((fun _=>True)) k_∧some k_≠(u3:Value).ownBlock) (Kd.R_apart' (HO198.out) (Kd.S_typed HO_3.out) (by decide)) (fun k_ hk=>⟨trivial,hk.2⟩))) (fun _ h_=>h_)));(case aB=>exact qy33);(case aF=>exact (fun _ _=>trivial));(case aO=>exact qy23);(case aS=>exact (below_size qy33));(case aL=>have:=LMc7.out;omega);intro v200 w9 ho hb hg hat;rw [← Ny199.out] at ho;have n0_:=qA (hb);have n1_:=qA (ho);clear HB;clear HO_3;clear HO198;have HB:=n0_;have HO201:=n1_;clear n0_ n1_;clear ho hb hg hat))
     go_roundg k1
     case measure=>have:=HK1.out;omega
     case rel=>exact ⟨(y199),(wrap64 (x8_1+1)),qy76,H',⟨qy81⟩,⟨(by (with_reducible repeat (first|apply Kd.S_alloc|apply Kd.S_drewN|apply Kd.S_drew));exact HO201.out)⟩,⟨qy33⟩⟩
    ·rw [if_neg c7] at H;exact absurd H (by simp)
   ·rw [if_neg c5] at H;have c5b0:decide (x8_1 < t195)=false:=decide_eq_false c5;clear c5;obtain rfl:=Option.some.inj H
    go_wp2
    go_ret;exact ⟨_,qy68,qy59,qy33⟩

/-! ### impl_fraction: function 130 -/
def impl_fraction.l0:Nat→Int→Int→Int→Int→Option (Int × Int)
 |0,_,_,_,_=>none
 |k+1,x0,x1,x5,x6=>if x6=0 then (if x5=0 then (none) else (some (wrap64 (Int.tdiv x0 x5),wrap64 (Int.tdiv x1 x5)))) else (impl_fraction.l0 k x0 x1 x6 (Int.tmod x5 x6))
def impl_fraction.f (k:Nat) (a0:Int) (a1:Int):Option (Int × Int):=impl_fraction.l0 k a0 a1 a0 a1
def impl_fraction.T4:Bool × List (List Nat × List Nat):=(true,[([],[]),([],[]),([0,1],[0,1]),([],[]),([],[]),([3,4],[3,4]),([2,5],[2,5]),([6,0,1,2,3,4,5,6],[6])])
def impl_fraction.B4:List Nat:=[0,0,3,0,0,24,63,127]
theorem impl_fraction.tab4:rtab .any (opsOf Tryz.f130 4)=impl_fraction.T4:=by kernel_rfl
theorem impl_fraction.bits4:waitsOk impl_fraction.T4.2 impl_fraction.B4=true:=by kernel_rfl
set_option maxHeartbeats 8000000 in
set_option maxRecDepth 100000 in
theorem impl_fraction.calls (k:Nat) (a0:Int) (a1:Int) (r1:Int) (r2:Int) (w:World) (h:impl_fraction.f k a0 a1=some (r1,r2)):
  Calls Tryz.prog 130 #[.int .i64 a0,.int .i64 a1] w fun e w'=>e=.returned (.agg #[.int .i64 r1,.int .i64 r2])∧Below w.heap.size w w':=by
 have hu25:=Tryz.underlying25;have HB:=qA (Below.refl w.heap.size w);have H:(impl_fraction.l0 k a0 a1 a0 a1)=some (r1,r2):=h;clear h;have H':=qA H;clear H;go_enter Tryz.func130,Tryz.ntmps130
 go_wp2_with (first|((with_reducible refine gate_dst (N:=4) rfl ?_);refine box_event ?hg (N:=4) ?hd (cs:= #[.int .i64 0,.int .i64 0]) (t:=25) ?hr ?_;(case hd=>rfl);(case hg=>rfl);(case hr=>first|(go_simp;done)|(go_simp;rfl));intro gb202 hg w3 hbox hb;have n0_:=qA (below_step qy33 hb);have n1_:=qA (hbox);have n2_:=qA ((by rw [hg];exact (below_size qy33):w.heap.size≤gb202));have n3_:=qA ((by rw [hg];exact (below_size qy33):w.heap.size≤gb202));clear HB;have HB:=n0_;have BK202:=n1_;have GW202:=n2_;have GE202:=n3_;clear n0_ n1_ n2_ n3_;clear hb hbox hg))
 go_loopg [5,6] k (fun kq v5 v6 w'=>∃ (x5_1:Int) (x6_1:Int),v5=.int .i64 x5_1∧v6=.int .i64 x6_1∧Aside0 (impl_fraction.l0 kq a0 a1 x5_1 x6_1=some (r1,r2))∧Aside0 (kq≤k)∧Aside0 (w'.heap[gb202]? =some (.cells #[.int .i64 0,.int .i64 0] 25 (0,0)))∧Aside0 (Below w.heap.size w w'))
 case atStart=>exact ⟨(a0),(a1),qy76,qy76,H',⟨Nat.le_refl _⟩,⟨(by (with_reducible repeat (first|refine blk_drewN ?_ _|refine blk_drew ?_|refine blk_alloc ?_ _));exact BK202.out)⟩,⟨qy22⟩⟩
 case round=>
  clear H'
  try clear c1
  try clear p2
  obtain ⟨x5_1,x6_1,rfl,rfl,HA,HK1,BK202,HB⟩:=hrel
  cases gk with
  |zero=>exact absurd HA.out (by simp [impl_fraction.l0])
  |succ k1=>
   have H:=HA.out;clear HA;simp only [impl_fraction.l0] at H;by_cases c4:x6_1=0
   ·rw [if_pos c4] at H;have c4b0:(x6_1==0)=true:=beq_iff_eq.mpr c4;have c4b1:(x6_1 != 0)=false:=bne_eq_false_iff_eq.mpr c4;clear c4;by_cases c5:x5_1=0
    ·rw [if_pos c5] at H;exact absurd H (by simp)
    ·rw [if_neg c5] at H;have c5b0:(x5_1==0)=false:=beq_eq_false_iff_ne.mpr c5;have c5b1:(x5_1 != 0)=true:=bne_iff_ne.mpr c5;simp only [Option.some.injEq,Prod.mk.injEq] at H;obtain ⟨rfl,rfl⟩:=H
     try go_wp2
     have n0_:=qA (blk_drew BK202.out);have n1_:=qA (below_drew1 HB.out);clear BK202;clear HB;have BK202:=n0_;have HB:=n1_;clear n0_ n1_;refine start_ (n:=8) (S:=fun w'=>True) (ds:=[]) #[false,false,false,false,false,false,false,false] (by kernel_rfl) rfl rfl trivial (fun hHeld=>?_);refine with_tabW impl_fraction.tab4 impl_fraction.bits4 (fun HT_ HW_=>?_);generalize wr.drew=w6 at BK202 HB hHeld ⊢;refine pU 0 (some 15) rfl rfl ?_;refine pU 1 (some 16) rfl rfl ?_;refine pU 2 (some 17) rfl rfl ?_;refine pU 3 (some 18) rfl rfl ?_;refine pU 4 (some 19) rfl rfl ?_;refine pU 5 (some 20) rfl rfl ?_;refine pU 6 (some 21) rfl rfl ?_;refine one_ (i:=7) (N:=none) #[true,true,true,true,true,true,true,true] rfl rfl (one_of HT_.out (by kernel_rfl)) (by decide) (fun K hK=>?_);have hs7:w6.cell? ⟨gb202,0,none⟩=some (.int .i64 0):=(blk_cell BK202.out 0).trans rfl;have hfs7:=blk_frozen BK202.out 0;have hs8:w6.cell? ⟨gb202,1,none⟩=some (.int .i64 0):=(blk_cell BK202.out 1).trans rfl;have hfs8:=blk_frozen BK202.out 1;refine skip_ (w1:=?_) (by rfl) rfl ?_ ?_;rotate_left
     ·go_simp;rfl
     refine hK.out _ _ trivial (fun hHeld=>?_);clear hK K;refine done_ (done_of HT_.out (by kernel_rfl)) ?_
     try go_wp2
     refine bodyPost_ret (results_cell_row rfl _ _ gb202 25 #[.int .i64 (wrap64 (Int.tdiv a0 x5_1)),.int .i64 (wrap64 (Int.tdiv a1 x5_1))] (0,0) _ rfl (by (with_reducible repeat (first|refine blk_drewN ?_ _|refine blk_drew ?_|refine blk_alloc ?_ _));refine blk_put (cs:= #[.int .i64 (wrap64 (Int.tdiv a0 x5_1)),.int .i64 0]) ?_ 1 _ rfl;(with_reducible repeat (first|refine blk_drewN ?_ _|refine blk_drew ?_|refine blk_alloc ?_ _));refine blk_put (cs:= #[.int .i64 0,.int .i64 0]) ?_ 0 _ rfl;(with_reducible repeat (first|refine blk_drewN ?_ _|refine blk_drew ?_|refine blk_alloc ?_ _));exact BK202.out) Tryz.underlying25 rfl (by kernel_rfl)) rfl ?_;exact ⟨qy68,qy22⟩
   ·rw [if_neg c4] at H;have c4b0:(x6_1==0)=false:=beq_eq_false_iff_ne.mpr c4;have c4b1:(x6_1 != 0)=true:=bne_iff_ne.mpr c4;have H':=qA H;clear H
    try go_wp2
    have n0_:=qA (blk_drew BK202.out);have n1_:=qA (below_drew1 HB.out);clear BK202;clear HB;have BK202:=n0_;have HB:=n1_;clear n0_ n1_;refine start_ (n:=6) (S:=fun w'=>True) (ds:=[]) #[false,false,false,false,false,false] (by kernel_rfl) rfl rfl trivial (fun hHeld=>?_);generalize wr.drew=w9 at BK202 HB hHeld ⊢;refine pK 0 (some 11) rfl rfl ?_;refine pK 1 (some 12) rfl rfl ?_;refine pK 2 (some 13) rfl rfl ?_;refine pK 3 (some 14) rfl rfl ?_;refine pK 4 (some 5) rfl rfl ?_;refine pK 5 (some 6) rfl rfl ?_;refine done_ (by kernel_rfl) ?_
    try go_wp2
    go_roundg k1
    case measure=>have:=HK1.out;omega
    case rel=>exact ⟨(x6_1),(Int.tmod x5_1 x6_1),qy76,qy76,H',⟨qy81⟩,⟨(by (with_reducible repeat (first|refine blk_drewN ?_ _|refine blk_drew ?_|refine blk_alloc ?_ _));exact BK202.out)⟩,⟨qy22⟩⟩

end Go.Proofs.YtaoecbpfocillaaGreat.Xdz
