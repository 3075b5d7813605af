-- Written by this session's own program (xprint.py) over the kit's print.py: functions, contracts and rows of the laws of one seat.
import Derived.Test.YtaoecbpfocillaaGreatZoXdz0
import Derived.Test.YtaoecbpfocillaaGreatZoXdz2
import Derived.Test.YtaoecbpfocillaaGreatZoXdz3
import Derived.Test.YtaoecbpfocillaaGreatZoXdzHsweep
namespace Go.Proofs.YtaoecbpfocillaaGreat.Xdz
open Go.RowKit Go.Proofs.YtaoecbpfocillaaGreatW.PrintWords Go.Proofs.YtaoecbpfocillaaGreatW.PrintLast Go.Proofs.YtaoecbpfocillaaGreatW.PrintMore
attribute [local go_sem] max2_int min2_int max_two min_two max_three min_three max_four min_four -- for this text's walks alone
set_option linter.unusedVariables false
set_option linter.unusedSimpArgs false

/-! ### impl_sweep: function 104 -/
def impl_sweep.f (k:Nat) (l0:List Int):Option (List Int):=(impl_sweepWord.f l0).bind fun t157=>((impl_runWord.f k l0 t157).bind fun t158=>(some t158))
theorem impl_sweep.mono:∀ a0 k,LeO (impl_sweep.f k a0) (impl_sweep.f (k+1) a0):=by
 intro a0 k;unfold impl_sweep.f
 repeat' first
   |(with_reducible exact impl_runWord.mono _ _ _)
   |(with_reducible exact LeO.refl _)
   |(with_reducible exact LeO.none _)
   |(with_reducible refine LeO.ite ?_ ?_)
   |(with_reducible refine LeO.bind ?_ (fun _=>?_))
   |exact impl_runWord.mono _ _ _
   |exact LeO.none _
   |refine LeO.ite ?_ ?_
   |refine LeO.bind ?_ (fun _=>?_)
set_option maxHeartbeats 8000000 in
set_option maxRecDepth 100000 in
theorem impl_sweep.calls (k:Nat) (A0:Option Addr) (c0:Nat) (l0:List Int) (r:List Int) (w:World) (hr0:Kd.C (Kd.int .i64) w A0 l0.length l0) (hc0:l0.length≤c0) (h:impl_sweep.f k l0=some r):
  Calls Tryz.prog 104 #[.slice A0 l0.length c0] w fun e w'=>∃ v0_:Value,e=.returned (v0_)∧Kd.R (Kd.int .i64) 3 w' w.heap.size (fun _=>True) v0_ r∧Below w.heap.size w w':=by
 have HR0:=qA hr0;have HC0:=qA hc0;clear hr0 hc0;have HB:=qA (Below.refl w.heap.size w);have H:((impl_sweepWord.f l0).bind fun t157=>((impl_runWord.f k l0 t157).bind fun t158=>(some t158)))=some r:=h;clear h;replace H:=Option.bind_eq_some_iff.mp H;obtain ⟨t157,A20,H⟩:=H;replace H:((impl_runWord.f k l0 t157).bind fun t158=>(some t158))=some r:=H;have A2:=qA A20;clear A20;replace H:=Option.bind_eq_some_iff.mp H;obtain ⟨t158,A30,H⟩:=H;replace H:(some t158)=some r:=H;have A3:=qA A30;clear A30;obtain rfl:=Option.some.inj H;go_enter Tryz.func104,Tryz.ntmps104
 go_wp2_with (first|((with_reducible refine gate_callee (f:=139) rfl ?_);refine goesL_ (some 5) rfl rfl Tryz.func139 (by kernel_rfl) rfl #[.slice A0 l0.length c0] rfl qy29 ?_;(with_reducible refine (impl_sweepWord.calls _ _ l0 t157 _ ?side1 ?side2 A2.out).mono ?_);(case side1=>repeat (first|exact HR0.out|(with_reducible refine Kd.C_alloc ?_ _)|(with_reducible refine Kd.C_drewN ?_ _)|(with_reducible refine Kd.C_drew ?_)));(case side2=>exact HC0.out);rintro e w4 ⟨rfl,hb⟩;refine ⟨_,rfl,?_⟩;have n0_:=qA (below_step qy33 hb);clear HB;have HB:=n0_;clear n0_;(try clear hb);(try clear hb2);(try clear hk);(try clear hi))|((with_reducible refine gate_callee (f:=81) rfl ?_);refine goesL_ (some 6) rfl rfl Tryz.func81 (by kernel_rfl) rfl #[.slice A0 l0.length c0,.string t157] rfl qy29 ?_;(with_reducible refine (impl_runWord.calls k (fun k_=>k_ < w.heap.size) _ _ l0 t157 t158 _ ?side1 A3.out).mono ?_);(case side1=>exact Kd.V_mk HC0.out (Kd.F_below (Kd.C_F (Kd.heap_int .i64) HR0.out) qy33));rintro e w5 ⟨v159,rfl,ho0,hb⟩;refine ⟨_,rfl,?_⟩;have n0_:=qA (Kd.R_lower (Kd.R_mono (ok':=fun k_=>True) ho0 (fun _ hk_=>trivial)) (below_size qy33));have n1_:=qA (below_step qy33 hb);clear HB;have HO160:=n0_;have HB:=n1_;clear n0_ n1_;(try clear hb);(try clear hb2);(try clear hk);(try clear hi);(try clear ho0)))
 go_ret;exact ⟨_,qy68,(by (with_reducible repeat (first|apply Kd.R_alloc|apply Kd.R_drewN|apply Kd.R_drew));exact HO160.out),qy33⟩

/-! ### impl_isSortable: function 46 -/
def impl_isSortable.f (k:Nat) (l0:List Int):Option (Bool):=(impl_sweep.f k l0).bind fun t161=>((impl_isSorted.f k t161).bind fun t164=>(some t164))
theorem impl_isSortable.mono:∀ a0 k,LeO (impl_isSortable.f k a0) (impl_isSortable.f (k+1) a0):=by
 intro a0 k;unfold impl_isSortable.f
 repeat' first
   |(with_reducible exact impl_isSorted.mono _ _)
   |(with_reducible exact impl_sweep.mono _ _)
   |(with_reducible exact LeO.refl _)
   |(with_reducible exact LeO.none _)
   |(with_reducible refine LeO.ite ?_ ?_)
   |(with_reducible refine LeO.bind ?_ (fun _=>?_))
   |exact impl_isSorted.mono _ _
   |exact impl_sweep.mono _ _
   |exact LeO.none _
   |refine LeO.ite ?_ ?_
   |refine LeO.bind ?_ (fun _=>?_)
set_option maxHeartbeats 8000000 in
set_option maxRecDepth 100000 in
theorem impl_isSortable.calls (k:Nat) (A0:Option Addr) (c0:Nat) (l0:List Int) (r:Bool) (w:World) (hr0:Kd.C (Kd.int .i64) w A0 l0.length l0) (hc0:l0.length≤c0) (h:impl_isSortable.f k l0=some r):
  Calls Tryz.prog 46 #[.slice A0 l0.length c0] w fun e w'=>e=.returned (.bool r)∧Below w.heap.size w w':=by
 have HR0:=qA hr0;have HC0:=qA hc0;clear hr0 hc0;have HB:=qA (Below.refl w.heap.size w);have H:((impl_sweep.f k l0).bind fun t161=>((impl_isSorted.f k t161).bind fun t164=>(some t164)))=some r:=h;clear h;replace H:=Option.bind_eq_some_iff.mp H;obtain ⟨t161,A20,H⟩:=H;replace H:((impl_isSorted.f k t161).bind fun t164=>(some t164))=some r:=H;have A2:=qA A20;clear A20;replace H:=Option.bind_eq_some_iff.mp H;obtain ⟨t164,A30,H⟩:=H;replace H:(some t164)=some r:=H;have A3:=qA A30;clear A30;obtain rfl:=Option.some.inj H;go_enter Tryz.func46,Tryz.ntmps46
 go_wp2_with (first|((with_reducible refine gate_callee (f:=104) rfl ?_);refine goesL_ (some 4) rfl rfl Tryz.func104 (by kernel_rfl) rfl #[.slice A0 l0.length c0] rfl qy29 ?_;(with_reducible refine (impl_sweep.calls k _ _ l0 t161 _ ?side1 ?side2 A2.out).mono ?_);(case side1=>repeat (first|exact HR0.out|(with_reducible refine Kd.C_alloc ?_ _)|(with_reducible refine Kd.C_drewN ?_ _)|(with_reducible refine Kd.C_drew ?_)));(case side2=>exact HC0.out);rintro e w4 ⟨v162,rfl,ho0,hb⟩;refine ⟨_,rfl,?_⟩;have n0_:=qA (Kd.R_lower ho0 (below_size qy33));have n1_:=qA (below_step qy33 hb);clear HB;have HO163:=n0_;have HB:=n1_;clear n0_ n1_;(try clear hb);(try clear hb2);(try clear hk);(try clear hi);(try clear ho0);obtain ⟨Ao5,co5,eo5⟩:=Kd.R_slice HO163.out;subst eo5)|((with_reducible refine gate_callee (f:=58) rfl ?_);refine goesL_ (some 5) rfl rfl Tryz.func58 (by kernel_rfl) rfl #[.slice Ao5 t161.length co5] rfl qy29 ?_;(with_reducible refine (impl_isSorted.calls k _ _ t161 t164 _ ?side1 ?side2 A3.out).mono ?_);(case side1=>repeat (first|exact (Kd.R_reads' HO163.out).2.2|(with_reducible refine Kd.C_alloc ?_ _)|(with_reducible refine Kd.C_drewN ?_ _)|(with_reducible refine Kd.C_drew ?_)));(case side2=>exact (Kd.R_reads' HO163.out).2.1);rintro e w' ⟨rfl,⟨nd,rfl⟩⟩;refine ⟨_,rfl,?_⟩))
 go_ret;exact ⟨qy68,qy33⟩

end Go.Proofs.YtaoecbpfocillaaGreat.Xdz
