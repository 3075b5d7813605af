-- Written by this session's own program (xprint.py) over the kit's print.py: functions, contracts and rows of the laws of one seat.
import Derived.Test.YtaoecbpfocillaaGreatZoXdz0
namespace Go.Proofs.YtaoecbpfocillaaGreat.Xdz
open Go.RowKit Go.Proofs.YtaoecbpfocillaaGreatW.PrintWords Go.Proofs.YtaoecbpfocillaaGreatW.PrintLast Go.Proofs.YtaoecbpfocillaaGreatW.PrintMore
attribute [local go_sem] max2_int min2_int max_two min_two max_three min_three max_four min_four -- for this text's walks alone
set_option linter.unusedVariables false
set_option linter.unusedSimpArgs false

/-! ### spec_l1In: function 67 -/
def spec_l1In.f (a0:Int) (a1:Int) (a2:Int):Option (Bool):=if a0≥a1 then (some (decide (a0≤a2))) else (some false)
set_option maxHeartbeats 8000000 in
set_option maxRecDepth 100000 in
theorem spec_l1In.calls (a0:Int) (a1:Int) (a2:Int) (r:Bool) (w:World) (h:spec_l1In.f a0 a1 a2=some r):
  Calls Tryz.prog 67 #[.int .i64 a0,.int .i64 a1,.int .i64 a2] w fun e w'=>e=.returned (.bool r)∧Drawn0 w w':=by
 have H:(if a0≥a1 then (some (decide (a0≤a2))) else (some false))=some r:=h;clear h;by_cases c4:a0≥a1
 ·rw [if_pos c4] at H;have c4b0:decide (a1≤a0)=true:=decide_eq_true c4;clear c4;obtain rfl:=Option.some.inj H;go_enter Tryz.func67,Tryz.ntmps67
  go_wp2
  go_ret;exact ⟨qy76,qy71⟩
 ·rw [if_neg c4] at H;have c4b0:decide (a1≤a0)=false:=decide_eq_false c4;clear c4;obtain rfl:=Option.some.inj H;go_enter Tryz.func67,Tryz.ntmps67
  go_wp2
  go_ret;exact ⟨qy76,qy71⟩

/-! ### spec_l9Size: function 47 -/
def spec_l9Size.f (a0:Int):Option (Bool):=(spec_l1In.f a0 1 6).bind fun t213=>(some t213)
set_option maxHeartbeats 8000000 in
set_option maxRecDepth 100000 in
theorem spec_l9Size.calls (a0:Int) (r:Bool) (w:World) (h:spec_l9Size.f a0=some r):
  Calls Tryz.prog 47 #[.int .i64 a0] w fun e w'=>e=.returned (.bool r)∧Drawn0 w w':=by
 have H:((spec_l1In.f a0 1 6).bind fun t213=>(some t213))=some r:=h;clear h;replace H:=Option.bind_eq_some_iff.mp H;obtain ⟨t213,A20,H⟩:=H;replace H:(some t213)=some r:=H;have A2:=qA A20;clear A20;obtain rfl:=Option.some.inj H;go_enter Tryz.func47,Tryz.ntmps47
 go_wp2_with (first|((with_reducible refine gate_callee (f:=67) rfl ?_);refine goesL_ (some 4) rfl rfl Tryz.func67 (by kernel_rfl) rfl #[.int .i64 a0,.int .i64 1,.int .i64 6] rfl qy29 ?_;(with_reducible refine (spec_l1In.calls a0 1 6 t213 _ A2.out).mono ?_);rintro e w' ⟨rfl,⟨nd,rfl⟩⟩;refine ⟨_,rfl,?_⟩))
 go_ret;exact ⟨qy76,qy71⟩

/-! ### spec_l2Ways: function 105 -/
def spec_l2Ways.l0:Nat→Int→Int→Int→Option (Int)
 |0,_,_,_=>none
 |k+1,x0,x3,x4=>if x4≤x0 then (spec_l2Ways.l0 k x0 (wrap64 (x3*x4)) (wrap64 (x4+1))) else (some x3)
def spec_l2Ways.f (k:Nat) (a0:Int):Option (Int):=spec_l2Ways.l0 k a0 1 2
theorem spec_l2Ways.mono_l:∀ k,(∀ y0 y1 y2,LeO (spec_l2Ways.l0 k y0 y1 y2) (spec_l2Ways.l0 (k+1) y0 y1 y2))
 |0=>fun _ _ _ r h=>by simp [spec_l2Ways.l0] at h
 |k+1=>by
  have ih0:=spec_l2Ways.mono_l k
  ·intro y0 y1 y2;unfold spec_l2Ways.l0
   repeat' first
   |(with_reducible exact ih0 _ _ _)
   |(with_reducible exact LeO.refl _)
   |(with_reducible exact LeO.none _)
   |(with_reducible refine LeO.ite ?_ ?_)
   |(with_reducible refine LeO.bind ?_ (fun _=>?_))
   |exact ih0 _ _ _
   |exact LeO.none _
   |refine LeO.ite ?_ ?_
   |refine LeO.bind ?_ (fun _=>?_)
theorem spec_l2Ways.mono:∀ a0 k,LeO (spec_l2Ways.f k a0) (spec_l2Ways.f (k+1) a0):=by
 intro a0 k;have ih0:=spec_l2Ways.mono_l k;unfold spec_l2Ways.f
 repeat' first
   |(with_reducible exact ih0 _ _ _)
   |(with_reducible exact LeO.refl _)
   |(with_reducible exact LeO.none _)
   |(with_reducible refine LeO.ite ?_ ?_)
   |(with_reducible refine LeO.bind ?_ (fun _=>?_))
   |exact ih0 _ _ _
   |exact LeO.none _
   |refine LeO.ite ?_ ?_
   |refine LeO.bind ?_ (fun _=>?_)
set_option maxHeartbeats 8000000 in
set_option maxRecDepth 100000 in
theorem spec_l2Ways.calls (k:Nat) (a0:Int) (r:Int) (w:World) (h:spec_l2Ways.f k a0=some r):
  Calls Tryz.prog 105 #[.int .i64 a0] w fun e w'=>e=.returned (.int .i64 r)∧Drawn0 w w':=by
 have H:(spec_l2Ways.l0 k a0 1 2)=some r:=h;clear h;have H':=qA H;clear H;go_enter Tryz.func105,Tryz.ntmps105
 go_wp2
 go_loopg [3,4] k (fun kq v3 v4 w'=>∃ (x3_1:Int) (x4_1:Int),v3=.int .i64 x3_1∧v4=.int .i64 x4_1∧Aside0 (spec_l2Ways.l0 kq a0 x3_1 x4_1=some r)∧Aside0 (kq≤k)∧Drawn0 w w')
 case atStart=>exact ⟨(1),(2),qy76,qy76,H',⟨Nat.le_refl _⟩,qy71⟩
 case round=>
  clear H'
  try clear c1
  obtain ⟨x3_1,x4_1,rfl,rfl,HA,HK1,⟨m1,rfl⟩⟩:=hrel
  cases gk with
  |zero=>exact absurd HA.out (by simp [spec_l2Ways.l0])
  |succ k1=>
   have H:=HA.out;clear HA;simp only [spec_l2Ways.l0] at H;by_cases c2:x4_1≤a0
   ·rw [if_pos c2] at H;have c2b0:decide (x4_1≤a0)=true:=decide_eq_true c2;clear c2;have H':=qA H;clear H
    go_wp2
    go_roundg k1
    case measure=>have:=HK1.out;omega
    case rel=>exact ⟨(wrap64 (x3_1*x4_1)),(wrap64 (x4_1+1)),qy76,qy76,H',⟨qy81⟩,qy71⟩
   ·rw [if_neg c2] at H;have c2b0:decide (x4_1≤a0)=false:=decide_eq_false c2;clear c2;obtain rfl:=Option.some.inj H
    go_wp2
    go_ret;exact ⟨qy76,qy71⟩

/-! ### spec_l2Sorted: function 50 -/
def spec_l2Sorted.l0:Nat→Int→List Int→Int→Option (List Int)
 |0,_,_,_=>none
 |k+1,x0,x3,x4=>if x4≤x0 then (if x3.length < 17592186044416 then (spec_l2Sorted.l0 k x0 (x3++[x4]) (wrap64 (x4+1))) else (none)) else (some x3)
def spec_l2Sorted.f (k:Nat) (a0:Int):Option (List Int):=spec_l2Sorted.l0 k a0 (([]:List Int)) 1
set_option maxHeartbeats 8000000 in
set_option maxRecDepth 100000 in
theorem spec_l2Sorted.calls (k:Nat) (a0:Int) (r:List Int) (w:World) (h:spec_l2Sorted.f k a0=some r):
  Calls Tryz.prog 50 #[.int .i64 a0] w fun e w'=>∃ v0_:Value,e=.returned (v0_)∧Kd.R (Kd.int .i64) 3 w' w.heap.size (fun _=>True) v0_ r∧Below w.heap.size w w':=by
 have HB:=qA (Below.refl w.heap.size w);have H:(spec_l2Sorted.l0 k a0 (([]:List Int)) 1)=some r:=h;clear h
 obtain ⟨y214,hy214⟩:∃ y_:List Int,y_=(([]:List Int)):=⟨_,rfl⟩
 replace H:(spec_l2Sorted.l0 k a0 y214 1)=some r:=by first|(rw [hy214];with_reducible exact H)|(have H2_:=(Option.bind_some _ _).symm.trans H;rw [hy214];with_reducible exact H2_)|(have H2_:=(Option.bind_some _ _).symm.trans H;with_reducible exact H2_)|with_reducible exact H|(rw [hy214];exact H)|exact H
 have Ny214:=qA hy214;clear hy214;have H':=qA H;clear H;go_enter Tryz.func50,Tryz.ntmps50
 go_wp2_with (first|((with_reducible refine gate_dst (N:=5) rfl ?_);refine Kd.R_lit (Kd.int .i64) _ 3 ?hg (N:=5) ?hd (xs:=([]:List Int)) (inner:=[]) (ok:=fun _=>True) (okp:=fun _=>True) ?hr ?hp (fun _ hk=>hk) trivial (Below.refl _ _) (Nat.le_refl _) (by simp) ?_;(case hd=>rfl);(case hg=>rfl);(case hr=>first|(go_simp;done)|(go_simp;rfl));(case hp=>exact (Reps.none _ _));intro v215 w2 ho3 hb hg_ hnew_;clear hg_ hnew_;(first|rw [← Ny214.out] at ho3|(simp only [Int.reduceToNat] at ho3;rw [← Ny214.out] at ho3));have n0_:=qA (Kd.R_lower ho3 (below_size qy33));have n1_:=qA (below_step qy33 hb);clear HB;have HO216:=n0_;have HB:=n1_;clear n0_ n1_;clear hb ho3))
 go_loopg [3,4] k (fun kq v3 v4 w'=>∃ (x3_1:List Int) (x4_1:Int),v4=.int .i64 x4_1∧Aside0 (spec_l2Sorted.l0 kq a0 x3_1 x4_1=some r)∧Aside0 (kq≤k)∧Aside0 (Kd.R (Kd.int .i64) 3 w' w.heap.size (fun _=>True) v3 x3_1)∧Aside0 (Below w.heap.size w w'))
 case atStart=>exact ⟨(y214),(1),qy76,H',⟨Nat.le_refl _⟩,⟨(by (with_reducible repeat (first|apply Kd.R_alloc|apply Kd.R_drewN|apply Kd.R_drew));exact HO216.out)⟩,⟨qy33⟩⟩
 case round=>
  clear H'
  try clear p2
  obtain ⟨x3_1,x4_1,rfl,HA,HK1,HO_3,HB⟩:=hrel
  cases gk with
  |zero=>exact absurd HA.out (by simp [spec_l2Sorted.l0])
  |succ k1=>
   have H:=HA.out;clear HA;simp only [spec_l2Sorted.l0] at H;by_cases c4:x4_1≤a0
   ·rw [if_pos c4] at H;have c4b0:decide (x4_1≤a0)=true:=decide_eq_true c4;clear c4;by_cases c5:x3_1.length < 17592186044416
    ·rw [if_pos c5] at H;have LMc5:=qA c5;clear c5
     obtain ⟨y217,hy217⟩:∃ y_:List Int,y_=(x3_1++[x4_1]):=⟨_,rfl⟩
     replace H:(spec_l2Sorted.l0 k1 a0 y217 (wrap64 (x4_1+1)))=some r:=by first|(rw [hy217];with_reducible exact H)|(have H2_:=(Option.bind_some _ _).symm.trans H;rw [hy217];with_reducible exact H2_)|(have H2_:=(Option.bind_some _ _).symm.trans H;with_reducible exact H2_)|with_reducible exact H|(rw [hy217];exact H)|exact H
     have Ny217:=qA hy217;clear hy217;have H':=qA H;clear H
     go_wp2_with (first|((with_reducible refine gate_builtin (b:=.append) (xs:= #[.tmp 11,.tmp 13]) rfl ?_);at_builtin;refine Kd.R_append (Kd.int .i64) (w0:=w) w.heap.size rfl (.tmp 11) (.tmp 13) 36 3 (.int .i64 0) 8 rfl Tryz.underlying36 info3 rfl (by decide) (by omega) u3 x3_1 x4_1 [.int .i64 x4_1] (fun _=>True) (fun _=>False) rfl rfl ?aP (fun _ hk=>hk.elim) ?aF ?aO ?aB ?aS ?aL ?_;(case aP=>exact rfl);(case aB=>exact qy33);(case aF=>exact (fun _ _=>trivial));(case aO=>exact qy63);(case aS=>exact (below_size qy33));(case aL=>have:=LMc5.out;omega);intro v218 w6 ho hb hg hat;rw [← Ny217.out] at ho;have n0_:=qA (hb);have n1_:=qA (ho);clear HB;clear HO_3;have HB:=n0_;have HO219:=n1_;clear n0_ n1_;clear ho hb hg hat))
     go_roundg k1
     case measure=>have:=HK1.out;omega
     case rel=>exact ⟨(y217),(wrap64 (x4_1+1)),qy76,H',⟨qy81⟩,⟨(by (with_reducible repeat (first|apply Kd.R_alloc|apply Kd.R_drewN|apply Kd.R_drew));exact HO219.out)⟩,⟨qy33⟩⟩
    ·rw [if_neg c5] at H;exact absurd H (by simp)
   ·rw [if_neg c4] at H;have c4b0:decide (x4_1≤a0)=false:=decide_eq_false c4;clear c4;obtain rfl:=Option.some.inj H
    go_wp2
    go_ret;exact ⟨_,qy68,qy63,qy33⟩

/-! ### spec_l1Own: function 140 -/
def spec_l1Own.f (l0:List Int):Option (List Int):=(some (([]:List Int):List Int)).bind fun y220=>(if y220.length+l0.length < 17592186044416 then (some (y220++l0)) else (none))
set_option maxHeartbeats 8000000 in
set_option maxRecDepth 100000 in
theorem spec_l1Own.calls (A0:Option Addr) (c0:Nat) (l0:List Int) (r:List Int) (w:World) (hr0:Kd.C (Kd.int .i64) w A0 l0.length l0) (hc0:l0.length≤c0) (h:spec_l1Own.f l0=some r):
  Calls Tryz.prog 140 #[.slice A0 l0.length c0] w fun e w'=>∃ v0_:Value,e=.returned (v0_)∧Kd.R (Kd.int .i64) 3 w' w.heap.size (fun _=>True) v0_ r∧Below w.heap.size w w':=by
 have HR0:=qA hr0;have HC0:=qA hc0;clear hr0 hc0;have HB:=qA (Below.refl w.heap.size w);have H:((some (([]:List Int):List Int)).bind fun y220=>(if y220.length+l0.length < 17592186044416 then (some (y220++l0)) else (none)))=some r:=h;clear h
 obtain ⟨y220,hy220⟩:∃ y_:List Int,y_=(([]:List Int)):=⟨_,rfl⟩
 replace H:(if y220.length+l0.length < 17592186044416 then (some (y220++l0)) else (none))=some r:=by first|(rw [hy220];with_reducible exact H)|(have H2_:=(Option.bind_some _ _).symm.trans H;rw [hy220];with_reducible exact H2_)|(have H2_:=(Option.bind_some _ _).symm.trans H;with_reducible exact H2_)|with_reducible exact H|(rw [hy220];exact H)|exact H
 have Ny220:=qA hy220;clear hy220;by_cases c2:y220.length+l0.length < 17592186044416
 ·rw [if_pos c2] at H;have LMc2:=qA c2;clear c2
  obtain ⟨y223,hy223⟩:∃ y_:List Int,y_=(y220++l0):=⟨_,rfl⟩
  replace H:(some y223)=some r:=by first|(rw [hy223];with_reducible exact H)|(have H2_:=(Option.bind_some _ _).symm.trans H;rw [hy223];with_reducible exact H2_)|(have H2_:=(Option.bind_some _ _).symm.trans H;with_reducible exact H2_)|with_reducible exact H|(rw [hy223];exact H)|exact H
  have Ny223:=qA hy223;clear hy223;obtain rfl:=Option.some.inj H;go_enter Tryz.func140,Tryz.ntmps140
  go_wp2_with (first|((with_reducible refine gate_dst (N:=3) rfl ?_);refine Kd.R_lit (Kd.int .i64) _ 3 ?hg (N:=3) ?hd (xs:=([]:List Int)) (inner:=[]) (ok:=fun _=>True) (okp:=fun _=>True) ?hr ?hp (fun _ hk=>hk) trivial (Below.refl _ _) (Nat.le_refl _) (by simp) ?_;(case hd=>rfl);(case hg=>rfl);(case hr=>first|(go_simp;done)|(go_simp;rfl));(case hp=>exact (Reps.none _ _));intro v221 w3 ho4 hb hg_ hnew_;clear hg_ hnew_;(first|rw [← Ny220.out] at ho4|(simp only [Int.reduceToNat] at ho4;rw [← Ny220.out] at ho4));have n0_:=qA (Kd.R_lower ho4 (below_size qy33));have n1_:=qA (below_step qy33 hb);clear HB;have HO222:=n0_;have HB:=n1_;clear n0_ n1_;clear hb ho4)|((with_reducible refine gate_builtin (b:=.append) (xs:= #[.tmp 3,.tmp 4]) rfl ?_);at_builtin;refine Kd.R_append_rows (Kd.int .i64) (w0:=w) w.heap.size rfl (.tmp 3) (.tmp 4) 36 3 (.int .i64 0) 8 rfl Tryz.underlying36 info3 rfl (by decide) (by omega) v221 y220 l0 _ _ _ (fun _=>True) (fun _=>False) rfl rfl ?aO ?aR (fun _ _ h=>h) (fun _ h=>h.elim) ?aF ?aB ?aS ?aL ?_;(case aR=>repeat (first|exact (Kd.C_below HR0.out HB.out)|(with_reducible refine Kd.C_alloc ?_ _)|(with_reducible refine Kd.C_drewN ?_ _)|(with_reducible refine Kd.C_drew ?_)));(case aB=>exact qy33);(case aF=>exact (fun _ _=>trivial));(case aO=>exact (by (with_reducible repeat (first|apply Kd.R_alloc|apply Kd.R_drewN|apply Kd.R_drew));exact HO222.out));(case aS=>exact (below_size qy33));(case aL=>have:=LMc2.out;omega);intro v224 w5 ho hb hg hat;rw [← Ny223.out] at ho;have n0_:=qA (hb);have n1_:=qA (ho);clear HB;clear HO222;have HB:=n0_;have HO225:=n1_;clear n0_ n1_;clear ho hb hg hat))
  go_ret;exact ⟨_,qy68,(by (with_reducible repeat (first|apply Kd.R_alloc|apply Kd.R_drewN|apply Kd.R_drew));exact HO225.out),qy33⟩
 ·rw [if_neg c2] at H;exact absurd H (by simp)

/-! ### spec_l2At: function 106 -/
def spec_l2At.l0:Nat→Int→List Int→List Int→Option (List Int)
 |0,_,_,_=>none
 |k+1,x1,x5,x6=>if (x6.length:Int) > 0 then ((spec_l2Ways.f k (wrap64 ((x6.length:Int) - 1))).bind fun t232=>(if t232=0 then (none) else (if 0≤(wrap64 (Int.tdiv x1 t232)) then (if (wrap64 (Int.tdiv x1 t232)) < (x6.length:Int) then (if x5.length < 17592186044416 then (if (wrap64 (Int.tdiv x1 t232))≤(x6.length:Int) then ((spec_l1Own.f (x6.take ((wrap64 (Int.tdiv x1 t232)):Int).toNat)).bind fun t241=>(if 0≤(wrap64 ((wrap64 (Int.tdiv x1 t232))+1)) then (if (wrap64 ((wrap64 (Int.tdiv x1 t232))+1))≤(x6.length:Int) then ((some (x6.drop ((wrap64 ((wrap64 (Int.tdiv x1 t232))+1)):Int).toNat:List Int)).bind fun y244=>(if t241.length+y244.length < 17592186044416 then (spec_l2At.l0 k (Int.tmod x1 t232) (x5++[rd x6 (wrap64 (Int.tdiv x1 t232))]) (t241++y244)) else (none))) else (none)) else (none))) else (none)) else (none)) else (none)) else (none)))) else (some x5)
def spec_l2At.f (k:Nat) (a0:Int) (a1:Int):Option (List Int):=(spec_l2Sorted.f k a0).bind fun t229=>(spec_l2At.l0 k a1 (([]:List Int)) t229)
def spec_l2At.T5:Bool × List (List Nat × List Nat):=(true,[([],[]),([],[]),([],[]),([1,2],[1,2]),([0,3],[0,3]),([4],[4]),([],[]),([],[]),([],[]),([7,8],[7,8]),([9],[9]),([6,10],[6,10]),([5,11,5],[5,11]),([12,12,0,1,2,3,4,5,6,7,8,9,10,11,12],[0,6,12])])
def spec_l2At.B5:List Nat:=[0,0,0,6,15,31,0,0,0,384,896,1984,4095,8191]
theorem spec_l2At.tab5:rtab .any (opsOf Tryz.f106 5)=spec_l2At.T5:=by kernel_rfl
theorem spec_l2At.bits5:waitsOk spec_l2At.T5.2 spec_l2At.B5=true:=by kernel_rfl
set_option maxHeartbeats 8000000 in
set_option maxRecDepth 100000 in
theorem spec_l2At.calls (k:Nat) (a0:Int) (a1:Int) (r:List Int) (w:World) (h:spec_l2At.f k a0 a1=some r):
  Calls Tryz.prog 106 #[.int .i64 a0,.int .i64 a1] w fun e w'=>∃ v0_:Value,e=.returned (v0_)∧Kd.R (Kd.int .i64) 3 w' w.heap.size (fun _=>True) v0_ r∧Below w.heap.size w w':=by
 have HB:=qA (Below.refl w.heap.size w);have H:((spec_l2Sorted.f k a0).bind fun t229=>(spec_l2At.l0 k a1 (([]:List Int)) t229))=some r:=h;clear h
 obtain ⟨y226,hy226⟩:∃ y_:List Int,y_=(([]:List Int)):=⟨_,rfl⟩
 replace H:((spec_l2Sorted.f k a0).bind fun t229=>(spec_l2At.l0 k a1 y226 t229))=some r:=by first|(rw [hy226];with_reducible exact H)|(have H2_:=(Option.bind_some _ _).symm.trans H;rw [hy226];with_reducible exact H2_)|(have H2_:=(Option.bind_some _ _).symm.trans H;with_reducible exact H2_)|with_reducible exact H|(rw [hy226];exact H)|exact H
 have Ny226:=qA hy226;clear hy226;replace H:=Option.bind_eq_some_iff.mp H;obtain ⟨t229,A30,H⟩:=H;replace H:(spec_l2At.l0 k a1 y226 t229)=some r:=H;have A3:=qA A30;clear A30;have H':=qA H;clear H;go_enter Tryz.func106,Tryz.ntmps106
 go_wp2_with (first|((with_reducible refine gate_dst (N:=8) rfl ?_);refine Kd.R_lit (Kd.int .i64) _ 3 ?hg (N:=8) ?hd (xs:=([]:List Int)) (inner:=[]) (ok:=fun _=>True) (okp:=fun _=>True) ?hr ?hp (fun _ hk=>hk) trivial (Below.refl _ _) (Nat.le_refl _) (by simp) ?_;(case hd=>rfl);(case hg=>rfl);(case hr=>first|(go_simp;done)|(go_simp;rfl));(case hp=>exact (Reps.none _ _));intro v227 w4 ho5 hb hg_ hnew_;clear hg_ hnew_;(first|rw [← Ny226.out] at ho5|(simp only [Int.reduceToNat] at ho5;rw [← Ny226.out] at ho5));have n0_:=qA (Kd.R_lower ho5 (below_size qy33));have n1_:=qA (below_step qy33 hb);clear HB;have HO228:=n0_;have HB:=n1_;clear n0_ n1_;clear hb ho5)|((with_reducible refine gate_callee (f:=50) rfl ?_);refine goesL_ (some 10) rfl rfl Tryz.func50 (by kernel_rfl) rfl #[.int .i64 a0] rfl qy29 ?_;(with_reducible refine (spec_l2Sorted.calls k a0 t229 _ A3.out).mono ?_);rintro e w6 ⟨v230,rfl,ho0,hb⟩;refine ⟨_,rfl,?_⟩;have n0_:=qA (Kd.R_elder' (by (with_reducible repeat (first|apply Kd.R_alloc|apply Kd.R_drewN|apply Kd.R_drew));exact HO228.out) (Kd.R_base ho0) hb);have n1_:=qA (Kd.R_lower (Kd.R_new' ho0 (Kd.R_lt (by (with_reducible repeat (first|apply Kd.R_alloc|apply Kd.R_drewN|apply Kd.R_drew));exact HO228.out))) (below_size qy33));have n2_:=qA (below_step qy33 hb);clear HO228;clear HB;have HO228:=n0_;have HO231:=n1_;have HB:=n2_;clear n0_ n1_ n2_;(try clear hb);(try clear hb2);(try clear hk);(try clear hi);(try clear ho0)))
 go_loopg [1,5,6] k (fun kq v1 v5 v6 w'=>∃ (x1_1:Int) (x5_1:List Int) (x6_1:List Int),v1=.int .i64 x1_1∧Aside0 (spec_l2At.l0 kq x1_1 x5_1 x6_1=some r)∧Aside0 (kq≤k)∧Aside0 (Kd.R (Kd.int .i64) 3 w' w.heap.size (fun k_=>some k_≠(v6:Value).ownBlock) v5 x5_1)∧Aside0 (Kd.R (Kd.int .i64) 3 w' w.heap.size (fun k_=>some k_≠(v5:Value).ownBlock) v6 x6_1)∧Aside0 (Below w.heap.size w w'))
 case atStart=>exact ⟨(a1),(y226),(t229),qy76,H',⟨Nat.le_refl _⟩,⟨(by (with_reducible repeat (first|apply Kd.R_alloc|apply Kd.R_drewN|apply Kd.R_drew));exact Kd.R_mono HO228.out (fun _ hk=>hk.2))⟩,⟨(by (with_reducible repeat (first|apply Kd.R_alloc|apply Kd.R_drewN|apply Kd.R_drew));exact Kd.R_mono HO231.out (fun _ hk=>hk.2))⟩,⟨qy33⟩⟩
 case round=>
  clear H'
  try clear c1
  try clear p2
  try clear c5
  obtain ⟨x1_1,x5_1,x6_1,rfl,HA,HK1,HO_5,HO_6,HB⟩:=hrel
  cases gk with
  |zero=>exact absurd HA.out (by simp [spec_l2At.l0])
  |succ k1=>
   have H:=HA.out;clear HA;simp only [spec_l2At.l0] at H;by_cases c7:(x6_1.length:Int) > 0
   ·rw [if_pos c7] at H;have c7b0:decide (0 < (x6_1.length:Int))=true:=decide_eq_true c7;have c7b1:decide (0 < x6_1.length)=true:=decide_eq_true (by omega);clear c7;replace H:=Option.bind_eq_some_iff.mp H;obtain ⟨t232,A80,H⟩:=H;replace H:(if t232=0 then (none) else (if 0≤(wrap64 (Int.tdiv x1_1 t232)) then (if (wrap64 (Int.tdiv x1_1 t232)) < (x6_1.length:Int) then (if x5_1.length < 17592186044416 then (if (wrap64 (Int.tdiv x1_1 t232))≤(x6_1.length:Int) then ((spec_l1Own.f (x6_1.take ((wrap64 (Int.tdiv x1_1 t232)):Int).toNat)).bind fun t241=>(if 0≤(wrap64 ((wrap64 (Int.tdiv x1_1 t232))+1)) then (if (wrap64 ((wrap64 (Int.tdiv x1_1 t232))+1))≤(x6_1.length:Int) then ((some (x6_1.drop ((wrap64 ((wrap64 (Int.tdiv x1_1 t232))+1)):Int).toNat:List Int)).bind fun y244=>(if t241.length+y244.length < 17592186044416 then (spec_l2At.l0 k1 (Int.tmod x1_1 t232) (x5_1++[rd x6_1 (wrap64 (Int.tdiv x1_1 t232))]) (t241++y244)) else (none))) else (none)) else (none))) else (none)) else (none)) else (none)) else (none)))=some r:=H;have A8:=qA A80;clear A80;by_cases c9:t232=0
    ·rw [if_pos c9] at H;exact absurd H (by simp)
    ·rw [if_neg c9] at H;have c9b0:(t232==0)=false:=beq_eq_false_iff_ne.mpr c9;have c9b1:(t232 != 0)=true:=bne_iff_ne.mpr c9
     obtain ⟨ji10,hji10⟩:∃ j_:Int,(wrap64 (Int.tdiv x1_1 t232))=j_:=⟨_,rfl⟩
     replace H:(if 0≤(ji10) then (if (ji10) < (x6_1.length:Int) then (if x5_1.length < 17592186044416 then (if (ji10)≤(x6_1.length:Int) then ((spec_l1Own.f (x6_1.take ((ji10):Int).toNat)).bind fun t241=>(if 0≤(wrap64 ((ji10)+1)) then (if (wrap64 ((ji10)+1))≤(x6_1.length:Int) then ((some (x6_1.drop ((wrap64 ((ji10)+1)):Int).toNat:List Int)).bind fun y244=>(if t241.length+y244.length < 17592186044416 then (spec_l2At.l0 k1 (Int.tmod x1_1 t232) (x5_1++[rd x6_1 (ji10)]) (t241++y244)) else (none))) else (none)) else (none))) else (none)) else (none)) else (none)) else (none))=some r:=by first|(rw [hji10] at H;exact H)|(simp only [hji10] at H ⊢;exact H)
     (try rw [hji10] at A8)
     have hji10w:(IntKind.i64.wrap (Int.tdiv x1_1 t232))=ji10:=(i64_w _).trans hji10;by_cases c11:0≤(ji10)
     ·rw [if_pos c11] at H;have c11b0:decide (0≤(ji10))=true:=decide_eq_true c11;clear c11;by_cases c12:(ji10) < (x6_1.length:Int)
      ·rw [if_pos c12] at H;have c12b0:decide ((ji10) < (x6_1.length:Int))=true:=decide_eq_true c12;clear c12;by_cases c13:x5_1.length < 17592186044416
       ·rw [if_pos c13] at H;have LMc13:=qA c13;clear c13
        obtain ⟨y234,hy234⟩:∃ y_:List Int,y_=(x5_1++[rd x6_1 (ji10)]):=⟨_,rfl⟩
        replace H:(if (ji10)≤(x6_1.length:Int) then ((spec_l1Own.f (x6_1.take ((ji10):Int).toNat)).bind fun t241=>(if 0≤(wrap64 ((ji10)+1)) then (if (wrap64 ((ji10)+1))≤(x6_1.length:Int) then ((some (x6_1.drop ((wrap64 ((ji10)+1)):Int).toNat:List Int)).bind fun y244=>(if t241.length+y244.length < 17592186044416 then (spec_l2At.l0 k1 (Int.tmod x1_1 t232) y234 (t241++y244)) else (none))) else (none)) else (none))) else (none))=some r:=by first|(rw [hy234];with_reducible exact H)|(have H2_:=(Option.bind_some _ _).symm.trans H;rw [hy234];with_reducible exact H2_)|(have H2_:=(Option.bind_some _ _).symm.trans H;with_reducible exact H2_)|with_reducible exact H|(rw [hy234];exact H)|exact H
        have Ny234:=qA hy234;clear hy234;have c14b0:=eq_true (of_decide_eq_true qy73:0≤(ji10));by_cases c15:(ji10)≤(x6_1.length:Int)
        ·rw [if_pos c15] at H;have c15b0:=eq_true c15;have c15b1:decide ((ji10)≤(x6_1.length:Int))=true:=decide_eq_true c15;clear c15
         obtain ⟨y237,hy237⟩:∃ y_:List Int,y_=(x6_1.take ((ji10):Int).toNat):=⟨_,rfl⟩
         replace H:((spec_l1Own.f y237).bind fun t241=>(if 0≤(wrap64 ((ji10)+1)) then (if (wrap64 ((ji10)+1))≤(x6_1.length:Int) then ((some (x6_1.drop ((wrap64 ((ji10)+1)):Int).toNat:List Int)).bind fun y244=>(if t241.length+y244.length < 17592186044416 then (spec_l2At.l0 k1 (Int.tmod x1_1 t232) y234 (t241++y244)) else (none))) else (none)) else (none)))=some r:=by first|(rw [hy237];with_reducible exact H)|(have H2_:=(Option.bind_some _ _).symm.trans H;rw [hy237];with_reducible exact H2_)|(have H2_:=(Option.bind_some _ _).symm.trans H;with_reducible exact H2_)|with_reducible exact H|(rw [hy237];exact H)|exact H
         have Ny237:=qA hy237;clear hy237;replace H:=Option.bind_eq_some_iff.mp H;obtain ⟨t241,A160,H⟩:=H;replace H:(if 0≤(wrap64 ((ji10)+1)) then (if (wrap64 ((ji10)+1))≤(x6_1.length:Int) then ((some (x6_1.drop ((wrap64 ((ji10)+1)):Int).toNat:List Int)).bind fun y244=>(if t241.length+y244.length < 17592186044416 then (spec_l2At.l0 k1 (Int.tmod x1_1 t232) y234 (t241++y244)) else (none))) else (none)) else (none))=some r:=H;have A16:=qA A160;clear A160
         obtain ⟨ji17,hji17⟩:∃ j_:Int,(wrap64 ((ji10)+1))=j_:=⟨_,rfl⟩
         replace H:(if 0≤(ji17) then (if (ji17)≤(x6_1.length:Int) then ((some (x6_1.drop ((ji17):Int).toNat:List Int)).bind fun y244=>(if t241.length+y244.length < 17592186044416 then (spec_l2At.l0 k1 (Int.tmod x1_1 t232) y234 (t241++y244)) else (none))) else (none)) else (none))=some r:=by first|(rw [hji17] at H;exact H)|(simp only [hji17] at H ⊢;exact H)
         (try rw [hji17] at A8)
         (try rw [hji17] at A16)
         have hji17w:(IntKind.i64.wrap ((ji10)+1))=ji17:=(i64_w _).trans hji17;by_cases c18:0≤(ji17)
         ·rw [if_pos c18] at H;have c18b0:=eq_true c18;have c18b1:decide (0≤(ji17))=true:=decide_eq_true c18;clear c18;by_cases c19:(ji17)≤(x6_1.length:Int)
          ·rw [if_pos c19] at H;have c19b0:=eq_true c19;have c19b1:decide ((ji17)≤(x6_1.length:Int))=true:=decide_eq_true c19;clear c19
           obtain ⟨y244,hy244⟩:∃ y_:List Int,y_=(x6_1.drop ((ji17):Int).toNat):=⟨_,rfl⟩
           replace H:(if t241.length+y244.length < 17592186044416 then (spec_l2At.l0 k1 (Int.tmod x1_1 t232) y234 (t241++y244)) else (none))=some r:=by first|(rw [hy244];with_reducible exact H)|(have H2_:=(Option.bind_some _ _).symm.trans H;rw [hy244];with_reducible exact H2_)|(have H2_:=(Option.bind_some _ _).symm.trans H;with_reducible exact H2_)|with_reducible exact H|(rw [hy244];exact H)|exact H
           have Ny244:=qA hy244;clear hy244;by_cases c20:t241.length+y244.length < 17592186044416
           ·rw [if_pos c20] at H;have LMc20:=qA c20;clear c20
            obtain ⟨y248,hy248⟩:∃ y_:List Int,y_=(t241++y244):=⟨_,rfl⟩
            replace H:(spec_l2At.l0 k1 (Int.tmod x1_1 t232) y234 y248)=some r:=by first|(rw [hy248];with_reducible exact H)|(have H2_:=(Option.bind_some _ _).symm.trans H;rw [hy248];with_reducible exact H2_)|(have H2_:=(Option.bind_some _ _).symm.trans H;with_reducible exact H2_)|with_reducible exact H|(rw [hy248];exact H)|exact H
            have Ny248:=qA hy248;clear hy248;have H':=qA H;clear H;obtain ⟨Ao21,co21,eo21⟩:=Kd.R_slice HO_6.out;subst eo21
            try go_wp2_with (first|((with_reducible refine gate_callee (f:=105) rfl ?_);refine goesL_ (some 17) rfl rfl Tryz.func105 (by kernel_rfl) rfl #[.int .i64 (wrap64 ((x6_1.length:Int) - 1))] rfl qy29 ?_;(with_reducible refine (spec_l2Ways.calls k1 (wrap64 ((x6_1.length:Int) - 1)) t232 _ A8.out).mono ?_);rintro e w' ⟨rfl,⟨nd,rfl⟩⟩;refine ⟨_,rfl,?_⟩;have p233:0≤((ji10):Int):=of_decide_eq_true qy73;have q233:(ji10) < (x6_1.length:Int):=of_decide_eq_true qy73;obtain ⟨ad233,e233,hx233_0⟩:=Kd.at_int (Kd.R_reads' HO_6.out).2.2 (ji10) p233 q233;cases e233;replace p233:=eq_true p233;replace q233:=eq_true q233)|((with_reducible refine gate_builtin (b:=.append) (xs:= #[.tmp 18,.tmp 25]) rfl ?_);at_builtin;refine Kd.R_append (Kd.int .i64) (w0:=w) w.heap.size rfl (.tmp 18) (.tmp 25) 36 3 (.int .i64 0) 8 rfl Tryz.underlying36 info3 rfl (by decide) (by omega) u5 x5_1 (rd x6_1 (ji10)) [.int .i64 (rd x6_1 (ji10))] (fun k_=>some k_≠(.slice (some ad233) x6_1.length co21:Value).ownBlock) (fun _=>False) rfl rfl ?aP (fun _ hk=>hk.elim) ?aF ?aO ?aB ?aS ?aL ?_;(case aP=>exact rfl);(case aB=>exact qy33);(case aF=>exact (fun k_ hk=>Kd.fresh' (Kd.R_lt qy61) k_ hk));(case aO=>exact qy62);(case aS=>exact (below_size qy33));(case aL=>have:=LMc13.out;omega);intro v235 w22 ho hb hg hat;rw [← Ny234.out] at ho;have n0_:=qA (Kd.R_after (ok:=(fun _=>True)) (by (with_reducible repeat (first|apply Kd.R_alloc|apply Kd.R_drewN|apply Kd.R_drew));exact Kd.R_mono HO_6.out (fun _ hk=>⟨trivial,hk⟩)) hg hat);have n1_:=qA (hb);have n2_:=qA (ho);clear HO_6;clear HB;clear HO_5;have HO_6:=n0_;have HB:=n1_;have HO236:=n2_;clear n0_ n1_ n2_;clear ho hb hg hat))
            have n0_:=qA (Kd.R_drew HO_6.out);have n1_:=qA (Kd.R_drew HO236.out);have n2_:=qA (below_drew1 HB.out);clear HO_6;clear HO236;clear HB;have HO_6:=n0_;have HO236:=n1_;have HB:=n2_;clear n0_ n1_ n2_;have q24:((ji10):Int)≤((x6_1.length:Int):Int):=of_decide_eq_true qy73;obtain ⟨i024,hi024,_,hsz24,_⟩:=info_parts info3;have hroom24:x6_1.length≤co21:=(Kd.R_reads' HO_6.out).2.1;have hC24:Kd.C (Kd.int .i64) _ (some ad233) x6_1.length x6_1:=(Kd.R_reads' HO_6.out).2.2;have hcut24:=cut_to (P:=Tryz.prog) 36 3 .i64 Tryz.underlying36 hi024 (some ad233) x6_1.length co21 (ji10) (of_decide_eq_true qy73) q24 hroom24;have hr24:=Kd.C_take (m:=((ji10):Int).toNat) hC24 (by omega)
            have hy24:y237.length=((ji10):Int).toNat:=(by rw [Ny237.out,List.length_take];omega)
            rw [← Ny237.out] at hr24;rw [← hy24] at hcut24;have HR240:=qA hr24;have HC240:=qA (show y237.length≤co21 from by omega);clear hr24 hC24 hroom24 hi024 hsz24;have KY24:=qA hy24;clear hy24;have KL24:=qA (show ((ji10):Int).toNat≤x6_1.length from by omega);replace q24:=eq_true q24;have q25:((ji17):Int)≤((x6_1.length:Int):Int):=of_decide_eq_true qy73;obtain ⟨i025,hi025,_,hsz25,_⟩:=info_parts info3;have hroom25:x6_1.length≤co21:=(Kd.R_reads' HO_6.out).2.1;have hC25:Kd.C (Kd.int .i64) _ (some ad233) x6_1.length x6_1:=(Kd.R_reads' HO_6.out).2.2;have q025:(0:Int)≤((ji17):Int):=of_decide_eq_true qy73;have hcut25:=cut_from (P:=Tryz.prog) 36 3 .i64 Tryz.underlying36 hi025 1 hsz25 (some ad233) x6_1.length co21 (ji17) q025 q25;have hr25:=Kd.C_drop (m:=((ji17):Int).toNat) (c:=co21) hC25 (by omega) hroom25
            obtain ⟨A25,hA25⟩:∃ A1,A1=(if co21=((ji17):Int).toNat then (some ad233) else ((some ad233):Option Addr).map (·.add (((ji17):Int).toNat*1))):=⟨_,rfl⟩
            obtain ⟨c25,hc25⟩:∃ c1,c1=co21 - ((ji17):Int).toNat:=⟨_,rfl⟩
            have hy25:y244.length=x6_1.length - ((ji17):Int).toNat:=(by rw [Ny244.out,List.length_drop]<;>omega)
            rw [show (x6_1).drop ((ji17):Int).toNat=y244 from Ny244.out.symm] at hr25
            replace hr25:Kd.C (Kd.int .i64) _ A25 y244.length y244:=(by rw [hA25];exact hr25)
            rw [← hy25,← hA25,← hc25] at hcut25;have HR247:=qA hr25;have HC247:=qA (show y244.length≤c25 from by rw [hy25,hc25];exact Nat.sub_le_sub_right hroom25 _);clear hr25 hC25 hroom25 hi025 hsz25 hc25;have KY25:=qA hy25;have KA25:=qA hA25;clear hy25 hA25;have KL25:=qA (show ((ji17):Int).toNat≤x6_1.length from by omega);replace q25:=eq_true q25;refine start_ (n:=14) (S:=fun w'=>True) (ds:=[]) #[false,false,false,false,false,false,false,false,false,false,false,false,false,false] (by kernel_rfl) rfl rfl trivial (fun hHeld=>?_);refine with_tabW spec_l2At.tab5 spec_l2At.bits5 (fun HT_ HW_=>?_);generalize w22.drew=w23 at HO_6 HO236 HB HR240 HR247 hHeld ⊢;refine pU 0 (some 27) rfl rfl ?_;refine pU 1 (some 28) rfl rfl ?_;refine pU 2 (some 29) rfl rfl ?_;refine pU 3 (some 30) rfl rfl ?_;refine pU 4 (some 31) rfl rfl ?_;refine pU 6 (some 33) rfl rfl ?_;refine pU 7 (some 34) rfl rfl ?_;refine pU 8 (some 35) rfl rfl ?_;refine pU 9 (some 36) rfl rfl ?_;refine pU 10 (some 37) rfl rfl ?_;refine pU 11 (some 38) rfl rfl ?_;refine one_ (i:=5) (N:=some 32) #[true,true,true,true,true,true,true,true,true,true,true,true,false,false] rfl rfl (one_of HT_.out (by kernel_rfl)) (by decide) (fun K hK=>?_);refine goes_ Tryz.func140 (by kernel_rfl) rfl #[.slice (some ad233) y237.length co21] (by rfl) rfl rfl qy29 ?_
            with_reducible refine (spec_l1Own.calls _ _ y237 t241 _ ?side1 ?side2 A16.out).mono ?_
            (case side1=>repeat (first|exact (by repeat (first|(with_reducible exact HR240.out)|(with_reducible refine Kd.C_alloc ?_ _)|(with_reducible refine Kd.C_drewN ?_ _)|(with_reducible refine Kd.C_drew ?_)|exact HR240.out))|(with_reducible refine Kd.C_alloc ?_ _)|(with_reducible refine Kd.C_drewN ?_ _)|(with_reducible refine Kd.C_drew ?_)))
            (case side2=>exact HC240.out)
            rintro e w26 ⟨v242,rfl,ho0,hb⟩;refine ⟨_,rfl,?_⟩;have n0_:=qA (Kd.R_elder' qy61 (Kd.R_base ho0) hb);have n1_:=qA (Kd.R_elder' qy53 (Kd.R_base ho0) hb);have n2_:=qA (Kd.R_lower (Kd.R_new' (Kd.R_new' ho0 (Kd.R_lt qy61)) (Kd.R_lt qy53)) (below_size qy33));have n3_:=qA (Kd.C_below (by repeat (first|(with_reducible exact HR240.out)|(with_reducible refine Kd.C_alloc ?_ _)|(with_reducible refine Kd.C_drewN ?_ _)|(with_reducible refine Kd.C_drew ?_)|exact HR240.out)) hb);have n4_:=qA (Kd.C_below (by repeat (first|(with_reducible exact HR247.out)|(with_reducible refine Kd.C_alloc ?_ _)|(with_reducible refine Kd.C_drewN ?_ _)|(with_reducible refine Kd.C_drew ?_)|exact HR247.out)) hb);have n5_:=qA (below_step qy33 hb);clear HO_6;clear HO236;clear HR240;clear HR247;clear HB;have HO_6:=n0_;have HO236:=n1_;have HO243:=n2_;have HR240:=n3_;have HR247:=n4_;have HB:=n5_;clear n0_ n1_ n2_ n3_ n4_ n5_
            (try clear hb)
            (try clear hb2)
            (try clear hk)
            (try clear hi)
            (try clear ho0)
            refine hK.out _ _ trivial (fun hHeld=>?_);clear hK K;refine norm_ (a':=?_) ?_ ?_;rotate_left
            ·show Act.put _ (some 32) _=_
             simp only [Act.put,List.setIfInBounds_toArray,List.set_cons_zero,List.set_cons_succ,i64_w,i32_w];rfl
            refine one_ (i:=12) (N:=some 39) #[true,true,true,true,true,true,true,true,true,true,true,true,true,false] rfl rfl (one_of HT_.out (by kernel_rfl)) (by decide) (fun K hK=>?_);refine Kd.R_append_rows_step (Kd.int .i64) (w0:=w) w.heap.size (by rfl) (.tmp 32) (.tmp 38) 36 3 (.int .i64 0) 8 rfl Tryz.underlying36 info3 rfl (by decide) (by omega) v242 t241 y244 _ _ _ (fun k_=>some k_≠(.slice (some ad233) x6_1.length co21:Value).ownBlock∧some k_≠(v235:Value).ownBlock) (fun _=>False) rfl rfl ?aO ?aR (fun _ _ h=>h) (fun _ h=>h.elim) ?aF ?aB ?aS ?aL ?_
            (case aR=>repeat (first|exact (by repeat (first|(with_reducible exact HR247.out)|(with_reducible refine Kd.C_alloc ?_ _)|(with_reducible refine Kd.C_drewN ?_ _)|(with_reducible refine Kd.C_drew ?_)|exact HR247.out))|(with_reducible refine Kd.C_alloc ?_ _)|(with_reducible refine Kd.C_drewN ?_ _)|(with_reducible refine Kd.C_drew ?_)))
            (case aB=>exact qy33)
            (case aF=>exact (fun k_ hk=>⟨Kd.fresh' (Kd.R_lt qy61) k_ hk,Kd.fresh' (Kd.R_lt qy53) k_ hk⟩))
            (case aO=>exact (by (with_reducible repeat (first|apply Kd.R_alloc|apply Kd.R_drewN|apply Kd.R_drew));exact Kd.R_mono HO243.out (fun _ hk=>⟨hk.1.2,hk.2⟩)))
            (case aS=>exact (below_size qy33))
            (case aL=>have:=LMc20.out;omega)
            intro v249 w27 ho hb hg hat;rw [← Ny248.out] at ho;have n0_:=qA (Kd.R_after (ok:=(fun k_=>some k_≠(v235:Value).ownBlock)) qy27 hg hat);have n1_:=qA (Kd.R_after (ok:=(fun k_=>some k_≠(.slice (some ad233) x6_1.length co21:Value).ownBlock)) qy53 hg hat);have n2_:=qA (hb);have n3_:=qA ((show Kd.C (Kd.int .i64) w27 (some ad233) y237.length y237 from by rw [Ny237.out];exact Kd.C_take (m:=((ji10):Int).toNat) ((Kd.R_reads' (Kd.R_after (ok:=(fun k_=>some k_≠(v235:Value).ownBlock)) qy27 hg hat)).2.2) KL24.out));have n4_:=qA ((show Kd.C (Kd.int .i64) w27 A25 y244.length y244 from by rw [Ny244.out,KA25.out];exact Kd.C_drop (m:=((ji17):Int).toNat) (c:=co21) ((Kd.R_reads' (Kd.R_after (ok:=(fun k_=>some k_≠(v235:Value).ownBlock)) qy27 hg hat)).2.2) KL25.out ((Kd.R_reads' (Kd.R_after (ok:=(fun k_=>some k_≠(v235:Value).ownBlock)) qy27 hg hat)).2.1)));have n5_:=qA (ho);clear HO_6;clear HO236;clear HB;clear HR240;clear HR247;clear HO243;have HO_6:=n0_;have HO236:=n1_;have HB:=n2_;have HR240:=n3_;have HR247:=n4_;have HO250:=n5_;clear n0_ n1_ n2_ n3_ n4_ n5_;clear ho hb hg hat;refine hK.out _ _ trivial (fun hHeld=>?_);clear hK K;refine norm_ (a':=?_) ?_ ?_;rotate_left
            ·show Act.put _ (some 39) _=_
             simp only [Act.put,List.setIfInBounds_toArray,List.set_cons_zero,List.set_cons_succ,i64_w,i32_w];rfl
            refine pU 13 (some 6) rfl rfl ?_;refine done_ (done_of HT_.out (by kernel_rfl)) ?_
            try go_wp2
            try subst hji17
            go_roundg k1
            case measure=>have:=HK1.out;omega
            case rel=>exact ⟨(Int.tmod x1_1 t232),(y234),(y248),qy76,H',⟨qy81⟩,⟨(by (with_reducible repeat (first|apply Kd.R_alloc|apply Kd.R_drewN|apply Kd.R_drew));exact Kd.R_mono HO236.out (fun _ hk=>hk.2))⟩,⟨(by (with_reducible repeat (first|apply Kd.R_alloc|apply Kd.R_drewN|apply Kd.R_drew));exact Kd.R_mono HO250.out (fun _ hk=>hk.2))⟩,⟨qy33⟩⟩
           ·rw [if_neg c20] at H;exact absurd H (by simp)
          ·rw [if_neg c19] at H;exact absurd H (by simp)
         ·rw [if_neg c18] at H;exact absurd H (by simp)
        ·rw [if_neg c15] at H;exact absurd H (by simp)
       ·rw [if_neg c13] at H;exact absurd H (by simp)
      ·rw [if_neg c12] at H;exact absurd H (by simp)
     ·rw [if_neg c11] at H;exact absurd H (by simp)
   ·rw [if_neg c7] at H;have c7b0:decide (0 < (x6_1.length:Int))=false:=decide_eq_false c7;have c7b1:decide (0 < x6_1.length)=false:=decide_eq_false (by omega);clear c7;obtain rfl:=Option.some.inj H;obtain ⟨Ao28,co28,eo28⟩:=Kd.R_slice HO_6.out;subst eo28
    go_wp2
    go_ret;exact ⟨_,qy68,(by (with_reducible repeat (first|apply Kd.R_alloc|apply Kd.R_drewN|apply Kd.R_drew));exact Kd.R_mono HO_5.out (fun _ hk=>trivial)),qy33⟩

/-! ### spec_l2Orders: function 48 -/
def spec_l2Orders.l0:Nat→Int→List (List Int)→Int→Option ((List (List Int)))
 |0,_,_,_=>none
 |k+1,x0,x3,x4=>(spec_l2Ways.f k x0).bind fun t254=>(if x4 < t254 then ((spec_l2At.f k x0 x4).bind fun t255=>(if x3.length < 5864062014805 then (spec_l2Orders.l0 k x0 (x3++[t255]) (wrap64 (x4+1))) else (none))) else (some x3))
def spec_l2Orders.f (k:Nat) (a0:Int):Option ((List (List Int))):=spec_l2Orders.l0 k a0 (([]:List (List Int))) 0
set_option maxHeartbeats 8000000 in
set_option maxRecDepth 100000 in
theorem spec_l2Orders.calls (k:Nat) (a0:Int) (r:List (List Int)) (w:World) (h:spec_l2Orders.f k a0=some r):
  Calls Tryz.prog 48 #[.int .i64 a0] w fun e w'=>∃ v0_:Value,e=.returned (v0_)∧Kd.S (Kd.slice 3 (Kd.int .i64)) 36 w' w.heap.size (fun _=>True) v0_ r∧Below w.heap.size w w':=by
 have HB:=qA (Below.refl w.heap.size w);have H:(spec_l2Orders.l0 k a0 (([]:List (List Int))) 0)=some r:=h;clear h
 obtain ⟨y251,hy251⟩:∃ y_:List (List Int),y_=(([]:List (List Int))):=⟨_,rfl⟩
 replace H:(spec_l2Orders.l0 k a0 y251 0)=some r:=by first|(rw [hy251];with_reducible exact H)|(have H2_:=(Option.bind_some _ _).symm.trans H;rw [hy251];with_reducible exact H2_)|(have H2_:=(Option.bind_some _ _).symm.trans H;with_reducible exact H2_)|with_reducible exact H|(rw [hy251];exact H)|exact H
 have Ny251:=qA hy251;clear hy251;have H':=qA H;clear H;go_enter Tryz.func48,Tryz.ntmps48
 go_wp2_with (first|((with_reducible refine gate_dst (N:=5) rfl ?_);refine Kd.S_lit (Kd.slice 3 (Kd.int .i64)) _ 36 ?hg (N:=5) ?hd (xs:=([]:List (List Int))) (inner:=[]) (ok:=fun _=>True) (okp:=fun _=>True) ?hr ?hp (fun _ hk=>hk) trivial (Below.refl _ _) (Nat.le_refl _) (by simp) ?_;(case hd=>rfl);(case hg=>rfl);(case hr=>first|(go_simp;done)|(go_simp;rfl));(case hp=>exact (Reps.none _ _));intro v252 w2 ho3 hb hg_ hnew_;clear hg_ hnew_;(first|rw [← Ny251.out] at ho3|(simp only [Int.reduceToNat] at ho3;rw [← Ny251.out] at ho3));have n0_:=qA (Kd.S_lower ho3 (below_size qy33));have n1_:=qA (below_step qy33 hb);clear HB;have HO253:=n0_;have HB:=n1_;clear n0_ n1_;clear hb ho3))
 go_loopg [3,4] k (fun kq v3 v4 w'=>∃ (x3_1:List (List Int)) (x4_1:Int),v4=.int .i64 x4_1∧Aside0 (spec_l2Orders.l0 kq a0 x3_1 x4_1=some r)∧Aside0 (kq≤k)∧Aside0 (Kd.S (Kd.slice 3 (Kd.int .i64)) 36 w' w.heap.size (fun _=>True) v3 x3_1)∧Aside0 (Below w.heap.size w w'))
 case atStart=>exact ⟨(y251),(0),qy76,H',⟨Nat.le_refl _⟩,⟨(by (with_reducible repeat (first|apply Kd.S_alloc|apply Kd.S_drewN|apply Kd.S_drew));exact HO253.out)⟩,⟨qy33⟩⟩
 case round=>
  clear H'
  try clear p2
  obtain ⟨x3_1,x4_1,rfl,HA,HK1,HO_3,HB⟩:=hrel
  cases gk with
  |zero=>exact absurd HA.out (by simp [spec_l2Orders.l0])
  |succ k1=>
   have H:=HA.out;clear HA;simp only [spec_l2Orders.l0] at H;replace H:=Option.bind_eq_some_iff.mp H;obtain ⟨t254,A40,H⟩:=H;replace H:(if x4_1 < t254 then ((spec_l2At.f k1 a0 x4_1).bind fun t255=>(if x3_1.length < 5864062014805 then (spec_l2Orders.l0 k1 a0 (x3_1++[t255]) (wrap64 (x4_1+1))) else (none))) else (some x3_1))=some r:=H;have A4:=qA A40;clear A40;by_cases c5:x4_1 < t254
   ·rw [if_pos c5] at H;have c5b0:decide (x4_1 < t254)=true:=decide_eq_true c5;clear c5;replace H:=Option.bind_eq_some_iff.mp H;obtain ⟨t255,A60,H⟩:=H;replace H:(if x3_1.length < 5864062014805 then (spec_l2Orders.l0 k1 a0 (x3_1++[t255]) (wrap64 (x4_1+1))) else (none))=some r:=H;have A6:=qA A60;clear A60;by_cases c7:x3_1.length < 5864062014805
    ·rw [if_pos c7] at H;have LMc7:=qA c7;clear c7
     obtain ⟨y258,hy258⟩:∃ y_:List (List Int),y_=(x3_1++[t255]):=⟨_,rfl⟩
     replace H:(spec_l2Orders.l0 k1 a0 y258 (wrap64 (x4_1+1)))=some r:=by first|(rw [hy258];with_reducible exact H)|(have H2_:=(Option.bind_some _ _).symm.trans H;rw [hy258];with_reducible exact H2_)|(have H2_:=(Option.bind_some _ _).symm.trans H;with_reducible exact H2_)|with_reducible exact H|(rw [hy258];exact H)|exact H
     have Ny258:=qA hy258;clear hy258;have H':=qA H;clear H
     go_wp2_with (first|((with_reducible refine gate_callee (f:=105) rfl ?_);refine goesL_ (some 8) rfl rfl Tryz.func105 (by kernel_rfl) rfl #[.int .i64 a0] rfl qy29 ?_;(with_reducible refine (spec_l2Ways.calls k1 a0 t254 _ A4.out).mono ?_);rintro e w' ⟨rfl,⟨nd,rfl⟩⟩;refine ⟨_,rfl,?_⟩)|((with_reducible refine gate_callee (f:=106) rfl ?_);refine goesL_ (some 15) rfl rfl Tryz.func106 (by kernel_rfl) rfl #[.int .i64 a0,.int .i64 x4_1] rfl qy29 ?_;(with_reducible refine (spec_l2At.calls k1 a0 x4_1 t255 _ A6.out).mono ?_);rintro e w8 ⟨v256,rfl,ho0,hb⟩;refine ⟨_,rfl,?_⟩;have n0_:=qA (Kd.S_elder' qy59 (Kd.R_base ho0) hb);have n1_:=qA (Kd.R_lower ho0 (below_size qy33));have n2_:=qA (below_step qy33 hb);clear HO_3;clear HB;have HO_3:=n0_;have HO257:=n1_;have HB:=n2_;clear n0_ n1_ n2_;(try clear hb);(try clear hb2);(try clear hk);(try clear hi);(try clear ho0);obtain ⟨Ao10,co10,eo10⟩:=Kd.R_slice HO257.out;subst eo10)|((with_reducible refine gate_builtin (b:=.append) (xs:= #[.tmp 12,.tmp 16]) rfl ?_);at_builtin;refine Kd.S_append (Kd.slice 3 (Kd.int .i64)) (w0:=w) w.heap.size rfl (.tmp 12) (.tmp 16) 32 36 (.slice none 0 0) 24 rfl Tryz.underlying32 info36 rfl (by decide) (by omega) u3 x3_1 t255 [.slice Ao10 t255.length co10] (fun _=>True) (fun k_=>some k_=(.slice Ao10 t255.length co10:Value).ownBlock) rfl rfl ?aP (fun k_ hk_=>((Kd.R_mono (ok':=fun k_=>((fun _=>True)) k_∧some k_≠(u3:Value).ownBlock) (Kd.R_apart' (HO257.out) (Kd.S_typed HO_3.out) (by decide)) (fun k_ hk=>⟨trivial,hk.2⟩))).1 k_ hk_.symm) ?aF ?aO ?aB ?aS ?aL ?_;(case aP=>exact Kd.M_row (Kd.R_mono (Kd.R_tight rfl (Kd.R_mono (ok':=fun k_=>((fun _=>True)) k_∧some k_≠(u3:Value).ownBlock) (Kd.R_apart' (HO257.out) (Kd.S_typed HO_3.out) (by decide)) (fun k_ hk=>⟨trivial,hk.2⟩))) (fun _ h_=>h_)));(case aB=>exact qy33);(case aF=>exact (fun _ _=>trivial));(case aO=>exact qy23);(case aS=>exact (below_size qy33));(case aL=>have:=LMc7.out;omega);intro v259 w9 ho hb hg hat;rw [← Ny258.out] at ho;have n0_:=qA (hb);have n1_:=qA (ho);clear HB;clear HO_3;clear HO257;have HB:=n0_;have HO260:=n1_;clear n0_ n1_;clear ho hb hg hat))
     go_roundg k1
     case measure=>have:=HK1.out;omega
     case rel=>exact ⟨(y258),(wrap64 (x4_1+1)),qy76,H',⟨qy81⟩,⟨(by (with_reducible repeat (first|apply Kd.S_alloc|apply Kd.S_drewN|apply Kd.S_drew));exact HO260.out)⟩,⟨qy33⟩⟩
    ·rw [if_neg c7] at H;exact absurd H (by simp)
   ·rw [if_neg c5] at H;have c5b0:decide (x4_1 < t254)=false:=decide_eq_false c5;clear c5;obtain rfl:=Option.some.inj H
    go_wp2_with (first|((with_reducible refine gate_callee (f:=105) rfl ?_);refine goesL_ (some 8) rfl rfl Tryz.func105 (by kernel_rfl) rfl #[.int .i64 a0] rfl qy29 ?_;(with_reducible refine (spec_l2Ways.calls k1 a0 t254 _ A4.out).mono ?_);rintro e w' ⟨rfl,⟨nd,rfl⟩⟩;refine ⟨_,rfl,?_⟩))
    go_ret;exact ⟨_,qy68,qy59,qy33⟩

end Go.Proofs.YtaoecbpfocillaaGreat.Xdz
