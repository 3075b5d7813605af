-- Written by this session's own program (xprint.py) over the kit's print.py: functions, contracts and rows of the laws of one seat.
import Derived.Test.YtaoecbpfocillaaGreatZoXdz0
namespace Go.Proofs.YtaoecbpfocillaaGreat.Xdz
open Go.RowKit Go.Proofs.YtaoecbpfocillaaGreatW.PrintWords Go.Proofs.YtaoecbpfocillaaGreatW.PrintLast Go.Proofs.YtaoecbpfocillaaGreatW.PrintMore
attribute [local go_sem] max2_int min2_int max_two min_two max_three min_three max_four min_four -- for this text's walks alone
set_option linter.unusedVariables false
set_option linter.unusedSimpArgs false

/-! ### laws_vPlus: function 23 -/
mutual
def laws_vPlus.l0:Nat→Int→Int→Int→Int→Int→Int→Option (Int × Int)
 |0,_,_,_,_,_,_=>none
 |k+1,x5,x6,x602000,x602001,x603000,x603001=>if x6 > 0 then (if x6=0 then (none) else (laws_vPlus.l0 k x6 (Int.tmod x5 x6) x602000 x602001 x603000 x603001)) else (if x5=0 then (none) else (laws_vPlus.l1 k (wrap64 ((wrap64 (x602000*(wrap64 (Int.tdiv x603001 x5))))+(wrap64 (x603000*(wrap64 (Int.tdiv x602001 x5)))))) (wrap64 ((wrap64 (Int.tdiv x602001 x5))*x603001)) (wrap64 ((wrap64 (x602000*(wrap64 (Int.tdiv x603001 x5))))+(wrap64 (x603000*(wrap64 (Int.tdiv x602001 x5)))))) (wrap64 ((wrap64 (Int.tdiv x602001 x5))*x603001))))
def laws_vPlus.l1:Nat→Int→Int→Int→Int→Option (Int × Int)
 |0,_,_,_,_=>none
 |k+1,x5,x6,x7,x8=>if x6 > 0 then (if x6=0 then (none) else (laws_vPlus.l1 k x6 (Int.tmod x5 x6) x7 x8)) else (if x5=0 then (none) else (some (wrap64 (Int.tdiv x7 x5),wrap64 (Int.tdiv x8 x5))))
end
def laws_vPlus.f (k:Nat) (a0_0:Int) (a0_1:Int) (a1_0:Int) (a1_1:Int):Option (Int × Int):=laws_vPlus.l0 k a0_1 a1_1 a0_0 a0_1 a1_0 a1_1
theorem laws_vPlus.mono_l:∀ k,(∀ y0 y1 y2 y3 y4 y5,LeO (laws_vPlus.l0 k y0 y1 y2 y3 y4 y5) (laws_vPlus.l0 (k+1) y0 y1 y2 y3 y4 y5))∧(∀ y0 y1 y2 y3,LeO (laws_vPlus.l1 k y0 y1 y2 y3) (laws_vPlus.l1 (k+1) y0 y1 y2 y3))
 |0=>⟨fun _ _ _ _ _ _ r h=>by simp [laws_vPlus.l0] at h,fun _ _ _ _ r h=>by simp [laws_vPlus.l1] at h⟩
 |k+1=>by
  obtain ⟨ih0,ih1⟩:=laws_vPlus.mono_l k;refine ⟨?_,?_⟩
  ·intro y0 y1 y2 y3 y4 y5;unfold laws_vPlus.l0
   repeat' first
   |(with_reducible exact ih0 _ _ _ _ _ _)
   |(with_reducible exact ih1 _ _ _ _)
   |(with_reducible exact LeO.refl _)
   |(with_reducible exact LeO.none _)
   |(with_reducible refine LeO.ite ?_ ?_)
   |(with_reducible refine LeO.bind ?_ (fun _=>?_))
   |exact ih0 _ _ _ _ _ _
   |exact ih1 _ _ _ _
   |exact LeO.none _
   |refine LeO.ite ?_ ?_
   |refine LeO.bind ?_ (fun _=>?_)
  ·intro y0 y1 y2 y3;unfold laws_vPlus.l1
   repeat' first
   |(with_reducible exact ih0 _ _ _ _ _ _)
   |(with_reducible exact ih1 _ _ _ _)
   |(with_reducible exact LeO.refl _)
   |(with_reducible exact LeO.none _)
   |(with_reducible refine LeO.ite ?_ ?_)
   |(with_reducible refine LeO.bind ?_ (fun _=>?_))
   |exact ih0 _ _ _ _ _ _
   |exact ih1 _ _ _ _
   |exact LeO.none _
   |refine LeO.ite ?_ ?_
   |refine LeO.bind ?_ (fun _=>?_)
theorem laws_vPlus.mono:∀ a0 a1 a2 a3 k,LeO (laws_vPlus.f k a0 a1 a2 a3) (laws_vPlus.f (k+1) a0 a1 a2 a3):=by
 intro a0 a1 a2 a3 k;obtain ⟨ih0,ih1⟩:=laws_vPlus.mono_l k;unfold laws_vPlus.f
 repeat' first
   |(with_reducible exact ih0 _ _ _ _ _ _)
   |(with_reducible exact ih1 _ _ _ _)
   |(with_reducible exact LeO.refl _)
   |(with_reducible exact LeO.none _)
   |(with_reducible refine LeO.ite ?_ ?_)
   |(with_reducible refine LeO.bind ?_ (fun _=>?_))
   |exact ih0 _ _ _ _ _ _
   |exact ih1 _ _ _ _
   |exact LeO.none _
   |refine LeO.ite ?_ ?_
   |refine LeO.bind ?_ (fun _=>?_)
def laws_vPlus.T4:Bool × List (List Nat × List Nat):=(true,[([],[]),([0],[0]),([],[]),([2],[2]),([],[]),([3,4],[3,4]),([1,5],[1,5]),([],[]),([7],[7]),([],[]),([9],[9]),([],[]),([10,11],[10,11]),([8,12],[8,12]),([6,13],[6,13]),([],[]),([15],[15]),([],[]),([16,17],[16,17]),([],[]),([19],[19]),([18,20],[18,20]),([14,0,1,2,3,4,5,6,7,8,9,10,11,12,13,14],[14]),([21,22,0,1,2,3,4,5,6,7,8,9,10,11,12,13,14,15,16,17,18,19,20,21,22],[21])])
def laws_vPlus.B4:List Nat:=[0,1,0,4,0,28,63,0,128,0,512,0,3584,8064,16383,0,32768,0,229376,0,524288,2064384,32767,8388607]
theorem laws_vPlus.tab4:rtab .any (opsOf Tryz.f23 4)=laws_vPlus.T4:=by kernel_rfl
theorem laws_vPlus.bits4:waitsOk laws_vPlus.T4.2 laws_vPlus.B4=true:=by kernel_rfl
def laws_vPlus.T8:Bool × List (List Nat × List Nat):=(true,[([],[]),([],[]),([0,1],[0,1]),([],[]),([],[]),([3,4],[3,4]),([2,5],[2,5]),([6,0,1,2,3,4,5,6],[6])])
def laws_vPlus.B8:List Nat:=[0,0,3,0,0,24,63,127]
theorem laws_vPlus.tab8:rtab .any (opsOf Tryz.f23 8)=laws_vPlus.T8:=by kernel_rfl
theorem laws_vPlus.bits8:waitsOk laws_vPlus.T8.2 laws_vPlus.B8=true:=by kernel_rfl
set_option maxHeartbeats 8000000 in
set_option maxRecDepth 100000 in
theorem laws_vPlus.calls (k:Nat) (a0_0:Int) (a0_1:Int) (a1_0:Int) (a1_1:Int) (r1:Int) (r2:Int) (w:World) (h:laws_vPlus.f k a0_0 a0_1 a1_0 a1_1=some (r1,r2)):
  Calls Tryz.prog 23 #[.agg #[.int .i64 a0_0,.int .i64 a0_1],.agg #[.int .i64 a1_0,.int .i64 a1_1]] w fun e w'=>e=.returned (.agg #[.int .i64 r1,.int .i64 r2])∧Below w.heap.size w w':=by
 have hu25:=Tryz.underlying25;have HB:=qA (Below.refl w.heap.size w);have H:(laws_vPlus.l0 k a0_1 a1_1 a0_0 a0_1 a1_0 a1_1)=some (r1,r2):=h;clear h;have H':=qA H;clear H;go_enter Tryz.func23,Tryz.ntmps23
 try go_wp2_with (first|((with_reducible refine gate_dst (N:=2) rfl ?_);refine box_event ?hg (N:=2) ?hd (cs:= #[.int .i64 a0_0,.int .i64 a0_1]) (t:=25) ?hr ?_;(case hd=>rfl);(case hg=>rfl);(case hr=>first|(go_simp;done)|(go_simp;rfl));intro gb601 hg w3 hbox hb;have n0_:=qA (below_step qy33 hb);have n1_:=qA (hbox);have n2_:=qA ((by rw [hg];exact (below_size qy33):w.heap.size≤gb601));have n3_:=qA ((by rw [hg];exact (below_size qy33):w.heap.size≤gb601));clear HB;have HB:=n0_;have BK601:=n1_;have GW601:=n2_;have GE601:=n3_;clear n0_ n1_ n2_ n3_;clear hb hbox hg)|((with_reducible refine gate_dst (N:=3) rfl ?_);refine box_event ?hg (N:=3) ?hd (cs:= #[.int .i64 a1_0,.int .i64 a1_1]) (t:=25) ?hr ?_;(case hd=>rfl);(case hg=>rfl);(case hr=>first|(go_simp;done)|(go_simp;rfl));intro gb602 hg w4 hbox hb;have n0_:=qA (blk_below (g:=gb601) (o:=.cells #[.int .i64 a0_0,.int .i64 a0_1] 25 (0,0)) qy36 hb);have n1_:=qA (below_step qy13 hb);have n2_:=qA (hbox);have n3_:=qA ((by rw [hg];exact (below_size qy13):w.heap.size≤gb602));have n4_:=qA ((by rw [hg];exact (below_size qy13):w.heap.size≤gb602));have n5_:=qA ((by rw [hg];exact Nat.ne_of_lt (blk_lt (g:=gb601) (o:=.cells #[.int .i64 a0_0,.int .i64 a0_1] 25 (0,0)) qy36):gb601≠gb602));have n6_:=qA ((by rw [hg];exact Nat.ne_of_gt (blk_lt (g:=gb601) (o:=.cells #[.int .i64 a0_0,.int .i64 a0_1] 25 (0,0)) qy36):gb602≠gb601));clear BK601;clear HB;have BK601:=n0_;have HB:=n1_;have BK602:=n2_;have GW602:=n3_;have GE602:=n4_;have NB601_602:=n5_;have NB602_601:=n6_;clear n0_ n1_ n2_ n3_ n4_ n5_ n6_;clear hb hbox hg)|((with_reducible refine gate_dst (N:=4) rfl ?_);refine box_event ?hg (N:=4) ?hd (cs:= #[.int .i64 0,.int .i64 0]) (t:=25) ?hr ?_;(case hd=>rfl);(case hg=>rfl);(case hr=>first|(go_simp;done)|(go_simp;rfl));intro gb603 hg w5 hbox hb;have n0_:=qA (blk_below (g:=gb601) (o:=.cells #[.int .i64 a0_0,.int .i64 a0_1] 25 (0,0)) qy36 hb);have n1_:=qA (blk_below (g:=gb602) (o:=.cells #[.int .i64 a1_0,.int .i64 a1_1] 25 (0,0)) qy35 hb);have n2_:=qA (below_step qy2 hb);have n3_:=qA (hbox);have n4_:=qA ((by rw [hg];exact (below_size qy2):w.heap.size≤gb603));have n5_:=qA ((by rw [hg];exact (below_size qy2):w.heap.size≤gb603));have n6_:=qA ((by rw [hg];exact Nat.ne_of_lt (blk_lt (g:=gb601) (o:=.cells #[.int .i64 a0_0,.int .i64 a0_1] 25 (0,0)) qy36):gb601≠gb603));have n7_:=qA ((by rw [hg];exact Nat.ne_of_gt (blk_lt (g:=gb601) (o:=.cells #[.int .i64 a0_0,.int .i64 a0_1] 25 (0,0)) qy36):gb603≠gb601));have n8_:=qA ((by rw [hg];exact Nat.ne_of_lt (blk_lt (g:=gb602) (o:=.cells #[.int .i64 a1_0,.int .i64 a1_1] 25 (0,0)) qy35):gb602≠gb603));have n9_:=qA ((by rw [hg];exact Nat.ne_of_gt (blk_lt (g:=gb602) (o:=.cells #[.int .i64 a1_0,.int .i64 a1_1] 25 (0,0)) qy35):gb603≠gb602));clear BK601;clear BK602;clear HB;have BK601:=n0_;have BK602:=n1_;have HB:=n2_;have BK603:=n3_;have GW603:=n4_;have GE603:=n5_;have NB601_603:=n6_;have NB603_601:=n7_;have NB602_603:=n8_;have NB603_602:=n9_;clear n0_ n1_ n2_ n3_ n4_ n5_ n6_ n7_ n8_ n9_;clear hb hbox hg))
 have n0_:=qA (blk_drew BK601.out);have n1_:=qA (blk_drew BK602.out);have n2_:=qA (blk_drew BK603.out);have n3_:=qA (below_drew1 HB.out);clear BK601;clear BK602;clear BK603;clear HB;have BK601:=n0_;have BK602:=n1_;have BK603:=n2_;have HB:=n3_;clear n0_ n1_ n2_ n3_;refine start_ (n:=6) (S:=fun w'=>w'.cell? ⟨gb601,0,none⟩=some (.int .i64 a0_0)∧w'.cell? ⟨gb601,1,none⟩=some (.int .i64 a0_1)∧w'.cell? ⟨gb602,0,none⟩=some (.int .i64 a1_0)∧w'.cell? ⟨gb602,1,none⟩=some (.int .i64 a1_1)) (ds:=[]) #[false,false,false,false,false,false] (by kernel_rfl) rfl rfl ⟨(blk_cell BK601.out 0).trans rfl,(blk_cell BK601.out 1).trans rfl,(blk_cell BK602.out 0).trans rfl,(blk_cell BK602.out 1).trans rfl⟩ (fun hHeld=>?_);generalize w5.drew=w6 at BK601 BK602 BK603 HB hHeld ⊢;refine pK 0 (some 9) rfl rfl ?_;refine pK 2 (some 11) rfl rfl ?_;refine take_ (i:=1) (N:=some 10) (v:=?_) (a':=?_) #[true,true,true,false,false,false] rfl rfl (by kernel_rfl) (fun _ _ _ h=>h) (Or.inl ⟨by rfl,?_⟩) hHeld ?_ ?_;rotate_left
 ·rintro w' ⟨s0,s1,s2,s3⟩;go_simp
  with_reducible rfl
 rotate_left
 ·simp only [Act.put,List.setIfInBounds_toArray,List.set_cons_zero,List.set_cons_succ,i64_w,i32_w];rfl
 refine pK 4 (some 5) rfl rfl ?_;refine take_ (i:=3) (N:=some 12) (v:=?_) (a':=?_) #[true,true,true,true,true,false] rfl rfl (by kernel_rfl) (fun _ _ _ h=>h) (Or.inl ⟨by rfl,?_⟩) hHeld ?_ ?_;rotate_left
 ·rintro w' ⟨s0,s1,s2,s3⟩;go_simp
  with_reducible rfl
 rotate_left
 ·simp only [Act.put,List.setIfInBounds_toArray,List.set_cons_zero,List.set_cons_succ,i64_w,i32_w];rfl
 refine pK 5 (some 6) rfl rfl ?_;refine done_ (by kernel_rfl) ?_
 try go_wp2
 go_loopg [5,6] k (fun kq v5 v6 w'=>∃ (x5_1:Int) (x6_1:Int),v5=.int .i64 x5_1∧v6=.int .i64 x6_1∧Aside0 (laws_vPlus.l0 kq x5_1 x6_1 a0_0 a0_1 a1_0 a1_1=some (r1,r2))∧Aside0 (kq≤k)∧Aside0 (w'.heap[gb601]? =some (.cells #[.int .i64 a0_0,.int .i64 a0_1] 25 (0,0)))∧Aside0 (w'.heap[gb602]? =some (.cells #[.int .i64 a1_0,.int .i64 a1_1] 25 (0,0)))∧Aside0 (w'.heap[gb603]? =some (.cells #[.int .i64 0,.int .i64 0] 25 (0,0)))∧Aside0 (Below w.heap.size w w'))
 case atStart=>exact ⟨(a0_1),(a1_1),qy76,qy76,H',⟨Nat.le_refl _⟩,⟨qy36⟩,⟨qy35⟩,⟨qy34⟩,⟨qy1⟩⟩
 case round=>
  clear H'
  try clear c2
  try clear p2
  obtain ⟨x5_1,x6_1,rfl,rfl,HA,HK1,BK601,BK602,BK603,HB⟩:=hrel
  cases gk with
  |zero=>exact absurd HA.out (by simp [laws_vPlus.l0])
  |succ k1=>
   have H:=HA.out;clear HA;simp only [laws_vPlus.l0] at H;by_cases c7:x6_1 > 0
   ·rw [if_pos c7] at H;have c7b0:decide (0 < x6_1)=true:=decide_eq_true c7;clear c7;by_cases c8:x6_1=0
    ·rw [if_pos c8] at H;exact absurd H (by simp)
    ·rw [if_neg c8] at H;have c8b0:(x6_1==0)=false:=beq_eq_false_iff_ne.mpr c8;have c8b1:(x6_1 != 0)=true:=bne_iff_ne.mpr c8;have H':=qA H;clear H
     try go_wp2
     have n0_:=qA (blk_drew BK601.out);have n1_:=qA (blk_drew BK602.out);have n2_:=qA (blk_drew BK603.out);have n3_:=qA (below_drew1 HB.out);clear BK601;clear BK602;clear BK603;clear HB;have BK601:=n0_;have BK602:=n1_;have BK603:=n2_;have HB:=n3_;clear n0_ n1_ n2_ n3_;refine start_ (n:=6) (S:=fun w'=>True) (ds:=[]) #[false,false,false,false,false,false] (by kernel_rfl) rfl rfl trivial (fun hHeld=>?_);generalize wr.drew=w9 at BK601 BK602 BK603 HB hHeld ⊢;refine pK 0 (some 15) rfl rfl ?_;refine pK 1 (some 16) rfl rfl ?_;refine pK 2 (some 17) rfl rfl ?_;refine pK 3 (some 18) rfl rfl ?_;refine pK 4 (some 5) rfl rfl ?_;refine pK 5 (some 6) rfl rfl ?_;refine done_ (by kernel_rfl) ?_
     try go_wp2
     go_roundg k1
     case measure=>have:=HK1.out;omega
     case rel=>exact ⟨(x6_1),(Int.tmod x5_1 x6_1),qy76,qy76,H',⟨qy81⟩,⟨qy36⟩,⟨qy35⟩,⟨qy34⟩,⟨qy1⟩⟩
   ·rw [if_neg c7] at H;have c7b0:decide (0 < x6_1)=false:=decide_eq_false c7;clear c7;by_cases c10:x5_1=0
    ·rw [if_pos c10] at H;exact absurd H (by simp)
    ·rw [if_neg c10] at H;have c10b0:(x5_1==0)=false:=beq_eq_false_iff_ne.mpr c10;have c10b1:(x5_1 != 0)=true:=bne_iff_ne.mpr c10;have H':=qA H;clear H
     try go_wp2
     have n0_:=qA (blk_drew BK601.out);have n1_:=qA (blk_drew BK602.out);have n2_:=qA (blk_drew BK603.out);have n3_:=qA (below_drew1 HB.out);clear BK601;clear BK602;clear BK603;clear HB;have BK601:=n0_;have BK602:=n1_;have BK603:=n2_;have HB:=n3_;clear n0_ n1_ n2_ n3_;refine start_ (n:=24) (S:=fun w'=>w'.cell? ⟨gb601,0,none⟩=some (.int .i64 a0_0)∧w'.cell? ⟨gb601,1,none⟩=some (.int .i64 a0_1)∧w'.cell? ⟨gb602,0,none⟩=some (.int .i64 a1_0)∧w'.cell? ⟨gb602,1,none⟩=some (.int .i64 a1_1)) (ds:=[]) #[false,false,false,false,false,false,false,false,false,false,false,false,false,false,false,false,false,false,false,false,false,false,false,false] (by kernel_rfl) rfl rfl ⟨(blk_cell BK601.out 0).trans rfl,(blk_cell BK601.out 1).trans rfl,(blk_cell BK602.out 0).trans rfl,(blk_cell BK602.out 1).trans rfl⟩ (fun hHeld=>?_);refine with_tabW laws_vPlus.tab4 laws_vPlus.bits4 (fun HT_ HW_=>?_);generalize wr.drew=w11 at BK601 BK602 BK603 HB hHeld ⊢;refine pU 0 (some 19) rfl rfl ?_;refine pU 2 (some 21) rfl rfl ?_;refine pU 4 (some 23) rfl rfl ?_;refine pU 7 (some 26) rfl rfl ?_;refine pU 9 (some 28) rfl rfl ?_;refine pU 11 (some 30) rfl rfl ?_;refine pU 15 (some 34) rfl rfl ?_;refine pU 17 (some 36) rfl rfl ?_;refine pU 19 (some 38) rfl rfl ?_;refine tK4 1 (some 20) rfl rfl ?_ hHeld;refine tK4 3 (some 22) rfl rfl ?_ hHeld;refine pU 5 (some 24) rfl rfl ?_;refine pU 6 (some 25) rfl rfl ?_;refine tK4 8 (some 27) rfl rfl ?_ hHeld;refine tK4 10 (some 29) rfl rfl ?_ hHeld;refine pU 12 (some 31) rfl rfl ?_;refine pU 13 (some 32) rfl rfl ?_;refine pU 14 (some 33) rfl rfl ?_;refine pU 22 (some 7) rfl rfl ?_;refine tK4 16 (some 35) rfl rfl ?_ hHeld;refine pU 18 (some 37) rfl rfl ?_;refine tK4 20 (some 39) rfl rfl ?_ hHeld;refine pU 21 (some 40) rfl rfl ?_;refine pU 23 (some 8) rfl rfl ?_;refine done_ (done_of HT_.out (by kernel_rfl)) ?_
     try go_wp2
     go_loopg [5,6] k1 (fun kq v5 v6 w'=>∃ (x5_2:Int) (x6_2:Int),v5=.int .i64 x5_2∧v6=.int .i64 x6_2∧Aside0 (laws_vPlus.l1 kq x5_2 x6_2 (wrap64 ((wrap64 (a0_0*(wrap64 (Int.tdiv a1_1 x5_1))))+(wrap64 (a1_0*(wrap64 (Int.tdiv a0_1 x5_1)))))) (wrap64 ((wrap64 (Int.tdiv a0_1 x5_1))*a1_1))=some (r1,r2))∧Aside0 (kq≤k1)∧Aside0 (w'.heap[gb601]? =some (.cells #[.int .i64 a0_0,.int .i64 a0_1] 25 (0,0)))∧Aside0 (w'.heap[gb602]? =some (.cells #[.int .i64 a1_0,.int .i64 a1_1] 25 (0,0)))∧Aside0 (w'.heap[gb603]? =some (.cells #[.int .i64 0,.int .i64 0] 25 (0,0)))∧Aside0 (Below w.heap.size w w'))
     case atStart=>exact ⟨(wrap64 ((wrap64 (a0_0*(wrap64 (Int.tdiv a1_1 x5_1))))+(wrap64 (a1_0*(wrap64 (Int.tdiv a0_1 x5_1)))))),(wrap64 ((wrap64 (Int.tdiv a0_1 x5_1))*a1_1)),qy76,qy76,H',⟨Nat.le_refl _⟩,⟨qy36⟩,⟨qy35⟩,⟨qy34⟩,⟨qy1⟩⟩
     case round=>
      clear H'
      try clear c1
      try clear c2
      try clear p2
      try clear p6
      try clear c7
      try clear c7b0
      try clear c8
      try clear c8b0
      try clear c8b1
      try clear c10
      try clear c10b0
      try clear c10b1
      try clear p2
      obtain ⟨x5_2,x6_2,rfl,rfl,HA,HK2,BK601,BK602,BK603,HB⟩:=hrel
      cases gk with
      |zero=>exact absurd HA.out (by simp [laws_vPlus.l1])
      |succ k2=>
       have H:=HA.out;clear HA;simp only [laws_vPlus.l1] at H;by_cases c12:x6_2 > 0
       ·rw [if_pos c12] at H;have c12b0:decide (0 < x6_2)=true:=decide_eq_true c12;clear c12;by_cases c13:x6_2=0
        ·rw [if_pos c13] at H;exact absurd H (by simp)
        ·rw [if_neg c13] at H;have c13b0:(x6_2==0)=false:=beq_eq_false_iff_ne.mpr c13;have c13b1:(x6_2 != 0)=true:=bne_iff_ne.mpr c13;have H':=qA H;clear H
         try go_wp2
         have n0_:=qA (blk_drew BK601.out);have n1_:=qA (blk_drew BK602.out);have n2_:=qA (blk_drew BK603.out);have n3_:=qA (below_drew1 HB.out);clear BK601;clear BK602;clear BK603;clear HB;have BK601:=n0_;have BK602:=n1_;have BK603:=n2_;have HB:=n3_;clear n0_ n1_ n2_ n3_;refine start_ (n:=6) (S:=fun w'=>True) (ds:=[]) #[false,false,false,false,false,false] (by kernel_rfl) rfl rfl trivial (fun hHeld=>?_);generalize wr.drew=w14 at BK601 BK602 BK603 HB hHeld ⊢;refine pK 0 (some 45) rfl rfl ?_;refine pK 1 (some 46) rfl rfl ?_;refine pK 2 (some 47) rfl rfl ?_;refine pK 3 (some 48) rfl rfl ?_;refine pK 4 (some 5) rfl rfl ?_;refine pK 5 (some 6) rfl rfl ?_;refine done_ (by kernel_rfl) ?_
         try go_wp2
         go_roundg k2
         case measure=>have:=HK1.out;have:=HK2.out;omega
         case rel=>exact ⟨(x6_2),(Int.tmod x5_2 x6_2),qy76,qy76,H',⟨qy78⟩,⟨qy36⟩,⟨qy35⟩,⟨qy34⟩,⟨qy1⟩⟩
       ·rw [if_neg c12] at H;have c12b0:decide (0 < x6_2)=false:=decide_eq_false c12;clear c12;by_cases c15:x5_2=0
        ·rw [if_pos c15] at H;exact absurd H (by simp)
        ·rw [if_neg c15] at H;have c15b0:(x5_2==0)=false:=beq_eq_false_iff_ne.mpr c15;have c15b1:(x5_2 != 0)=true:=bne_iff_ne.mpr c15;simp only [Option.some.injEq,Prod.mk.injEq] at H;obtain ⟨rfl,rfl⟩:=H
         try go_wp2
         have n0_:=qA (blk_drew BK601.out);have n1_:=qA (blk_drew BK602.out);have n2_:=qA (blk_drew BK603.out);have n3_:=qA (below_drew1 HB.out);clear BK601;clear BK602;clear BK603;clear HB;have BK601:=n0_;have BK602:=n1_;have BK603:=n2_;have HB:=n3_;clear n0_ n1_ n2_ n3_;refine start_ (n:=8) (S:=fun w'=>True) (ds:=[]) #[false,false,false,false,false,false,false,false] (by kernel_rfl) rfl rfl trivial (fun hHeld=>?_);refine with_tabW laws_vPlus.tab8 laws_vPlus.bits8 (fun HT_ HW_=>?_);generalize wr.drew=w16 at BK601 BK602 BK603 HB hHeld ⊢;refine pU 0 (some 49) rfl rfl ?_;refine pU 1 (some 50) rfl rfl ?_;refine pU 2 (some 51) rfl rfl ?_;refine pU 3 (some 52) rfl rfl ?_;refine pU 4 (some 53) rfl rfl ?_;refine pU 5 (some 54) rfl rfl ?_;refine pU 6 (some 55) rfl rfl ?_;refine one_ (i:=7) (N:=none) #[true,true,true,true,true,true,true,true] rfl rfl (one_of HT_.out (by kernel_rfl)) (by decide) (fun K hK=>?_);have hs17:w16.cell? ⟨gb603,0,none⟩=some (.int .i64 0):=(blk_cell BK603.out 0).trans rfl;have hfs17:=blk_frozen BK603.out 0;have hns17_0:=NB601_603.out;have hns17_1:=NB602_603.out;have hms17_0:=NB603_601.out;have hms17_1:=NB603_602.out;have hs18:w16.cell? ⟨gb603,1,none⟩=some (.int .i64 0):=(blk_cell BK603.out 1).trans rfl;have hfs18:=blk_frozen BK603.out 1;have hns18_0:=NB601_603.out;have hns18_1:=NB602_603.out;have hms18_0:=NB603_601.out;have hms18_1:=NB603_602.out;refine skip_ (w1:=?_) (by rfl) rfl ?_ ?_;rotate_left
         ·go_simp;rfl
         refine hK.out _ _ trivial (fun hHeld=>?_);clear hK K;refine done_ (done_of HT_.out (by kernel_rfl)) ?_
         try go_wp2
         refine bodyPost_ret (results_cell_row rfl _ _ gb603 25 #[.int .i64 (wrap64 (Int.tdiv (wrap64 ((wrap64 (a0_0*(wrap64 (Int.tdiv a1_1 x5_1))))+(wrap64 (a1_0*(wrap64 (Int.tdiv a0_1 x5_1)))))) x5_2)),.int .i64 (wrap64 (Int.tdiv (wrap64 ((wrap64 (Int.tdiv a0_1 x5_1))*a1_1)) x5_2))] (0,0) _ rfl (by (with_reducible repeat (first|refine blk_drewN ?_ _|refine blk_drew ?_|refine blk_alloc ?_ _));refine blk_put (cs:= #[.int .i64 (wrap64 (Int.tdiv (wrap64 ((wrap64 (a0_0*(wrap64 (Int.tdiv a1_1 x5_1))))+(wrap64 (a1_0*(wrap64 (Int.tdiv a0_1 x5_1)))))) x5_2)),.int .i64 0]) ?_ 1 _ rfl;(with_reducible repeat (first|refine blk_drewN ?_ _|refine blk_drew ?_|refine blk_alloc ?_ _));refine blk_put (cs:= #[.int .i64 0,.int .i64 0]) ?_ 0 _ rfl;(with_reducible repeat (first|refine blk_drewN ?_ _|refine blk_drew ?_|refine blk_alloc ?_ _));exact BK603.out) Tryz.underlying25 rfl (by kernel_rfl)) rfl ?_;exact ⟨qy68,qy1⟩

end Go.Proofs.YtaoecbpfocillaaGreat.Xdz
