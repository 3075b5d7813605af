-- Written by this session's own program (xprint.py) over the kit's print.py: functions, contracts and rows of the laws of one seat.
import Derived.Test.YtaoecbpfocillaaGreatProg
import Derived.Below
import Derived.Deep.Draws
import Derived.Deep.AppendLies
import Derived.Maps.AppendAt
import Derived.OwnWalk
import Derived.Laws.BytesArg
import Derived.Laws.MakeOwn
import Derived.Laws.OwnMore
import Derived.Deep.OwnRows
import Derived.Tactics
import Derived.Lib.ConvBytes
import Derived.Laws.Slices
import Derived.WalkKit
import Derived.KernelRfl
import Derived.RowKit3
import Derived.Deep.LoopGhost
import Derived.Deep.QuietTactic
import Derived.BigQuiet
import Derived.WideLaws
import Derived.Deep.DeepCutAuto
import Derived.Deep.CutBlock
import Derived.Deep.RegionHeld3
import Derived.Laws.Rows
import Derived.Lib.AppendStr
import Derived.ArgAppend
import Derived.Laws.IdiomCopy
import Derived.OrdersHeld
import Derived.Laws.BitsLemmas
import Derived.RowKit
import Derived.Test.YtaoecbpfocillaaGreatZoW
namespace Go.Proofs.YtaoecbpfocillaaGreat.Xdz
open Go.RowKit Go.Proofs.YtaoecbpfocillaaGreatW.PrintWords Go.Proofs.YtaoecbpfocillaaGreatW.PrintLast Go.Proofs.YtaoecbpfocillaaGreatW.PrintMore
attribute [local go_sem] max2_int min2_int max_two min_two max_three min_three max_four min_four -- for this text's walks alone
set_option linter.unusedVariables false
set_option linter.unusedSimpArgs false



def errW:Option Int→Value
 |none=>.nilIface
 |some c=>.iface 0 (.int .i64 c)
theorem errW_none:errW none=.nilIface:=rfl
theorem errW_some (c:Int):errW (some c)=.iface 0 (.int .i64 c):=rfl

theorem info3:(Tryz.prog.info? 3).map (fun i=>(i.zero,i.size,i.bytes))=some (some (.int .i64 0),1,8):=by kernel_rfl
theorem info5:(Tryz.prog.info? 5).map (fun i=>(i.zero,i.size,i.bytes))=some (some (.int .u8 0),1,1):=by kernel_rfl
theorem info36:(Tryz.prog.info? 36).map (fun i=>(i.zero,i.size,i.bytes))=some (some (.slice none 0 0),1,24):=by kernel_rfl
-- the values' own types
def rd_L2 (xs:List (List Int)) (i:Int):(List Int):=xs.getD i.toNat ([]:List Int)
theorem at_L2 {w:World} {A:Option Addr} {n:Nat} {xs:List (List Int)} (h:Kd.C (Kd.slice 3 (Kd.int .i64)) w A n xs) (i:Int) (h0:0≤i) (h1:i < n):∃ ad A0 c0,A=some ad∧w.cell? (ad.add i.toNat)=some (.slice A0 (rd_L2 xs i).length c0)∧(rd_L2 xs i).length≤c0∧(Kd.int .i64).C w A0 (rd_L2 xs i).length (rd_L2 xs i):=by
 obtain ⟨ad,c,e,_,hK,hc0⟩:=Kd.C_get h ([]:List Int) i h0 h1;have hc:∀ j u,c[j]? =some u→w.cell? (ad.add (i.toNat*1+j))=some u:=hc0;obtain ⟨A0,c0,rfl,l0,g0⟩:=hK;exact ⟨ad,A0,c0,e,(by have hq:=hc 0 _ rfl;rwa [Nat.mul_one,Nat.add_zero] at hq),l0,g0⟩

structure S25 where
 f0:Int
 f1:Int
structure S50 where
 f0:(List Int)
 f1:Int
 f2:Int
theorem qy1 {P_:Prop} (h_:P_:=by repeat (first|(with_reducible first|exact HB.out|apply below_alloc|apply pw_below_drewN|apply below_drew1|refine below_set ?_ GE601.out|refine below_set ?_ GE602.out|refine below_set ?_ GE603.out)|exact HB.out)):P_:=h_
theorem qy2 {P_:Prop} (h_:P_:=by repeat (first|(with_reducible first|exact HB.out|apply below_alloc|apply pw_below_drewN|apply below_drew1|refine below_set ?_ GE601.out|refine below_set ?_ GE602.out)|exact HB.out)):P_:=h_
theorem qy3 {P_:Prop} (h_:P_:=by repeat (first|(with_reducible first|exact HB.out|apply below_alloc|apply pw_below_drewN|apply below_drew1|refine below_set ?_ GE599.out|refine below_set ?_ GE600.out)|exact HB.out)):P_:=h_
theorem qy4 {P_:Prop} (h_:P_:=by repeat (first|(with_reducible exact HR580_0.out)|(with_reducible refine Kd.C_alloc ?_ _)|(with_reducible refine Kd.C_drewN ?_ _)|(with_reducible refine Kd.C_drew ?_)|exact HR580_0.out)):P_:=h_
theorem qy5 {P_:Prop} (h_:P_:=by repeat (first|(with_reducible exact HR428_0.out)|(with_reducible refine Kd.C_alloc ?_ _)|(with_reducible refine Kd.C_drewN ?_ _)|(with_reducible refine Kd.C_drew ?_)|exact HR428_0.out)):P_:=h_
theorem qy6 {P_:Prop} (h_:P_:=by repeat (first|(with_reducible exact HR328_0.out)|(with_reducible refine Kd.C_alloc ?_ _)|(with_reducible refine Kd.C_drewN ?_ _)|(with_reducible refine Kd.C_drew ?_)|exact HR328_0.out)):P_:=h_
theorem qy7 {P_:Prop} (h_:P_:=by repeat (first|(with_reducible exact HR294_0.out)|(with_reducible refine Kd.C_alloc ?_ _)|(with_reducible refine Kd.C_drewN ?_ _)|(with_reducible refine Kd.C_drew ?_)|exact HR294_0.out)):P_:=h_
theorem qy8 {P_:Prop} (h_:P_:=by repeat (first|(with_reducible exact HR462.out)|(with_reducible refine Kd.C_alloc ?_ _)|(with_reducible refine Kd.C_drewN ?_ _)|(with_reducible refine Kd.C_drew ?_)|exact HR462.out)):P_:=h_
theorem qy9 {P_:Prop} (h_:P_:=by repeat (first|(with_reducible exact HR449.out)|(with_reducible refine Kd.C_alloc ?_ _)|(with_reducible refine Kd.C_drewN ?_ _)|(with_reducible refine Kd.C_drew ?_)|exact HR449.out)):P_:=h_
theorem qy10 {P_:Prop} (h_:P_:=by repeat (first|(with_reducible first|exact HB.out|apply below_alloc|apply pw_below_drewN|apply below_drew1|refine below_set ?_ (IsS50.ge HI385.out))|exact HB.out)):P_:=h_
theorem qy11 {P_:Prop} (h_:P_:=by repeat (first|(with_reducible first|exact HB.out|apply below_alloc|apply pw_below_drewN|apply below_drew1|refine below_set ?_ (IsS50.ge HI0.out))|exact HB.out)):P_:=h_
theorem qy12 {P_:Prop} (h_:P_:=by repeat (first|(with_reducible first|exact HI0.out|apply IsS50.alloc|apply IsS50.drewN|apply IsS50.drew|apply IsS50.set_1|apply IsS50.set_2)|exact HI0.out)):P_:=h_
theorem qy13 {P_:Prop} (h_:P_:=by repeat (first|(with_reducible first|exact HB.out|apply below_alloc|apply pw_below_drewN|apply below_drew1|refine below_set ?_ GE601.out)|exact HB.out)):P_:=h_
theorem qy14 {P_:Prop} (h_:P_:=by repeat (first|(with_reducible first|exact HB.out|apply below_alloc|apply pw_below_drewN|apply below_drew1|refine below_set ?_ GE599.out)|exact HB.out)):P_:=h_
theorem qy15 {P_:Prop} (h_:P_:=by repeat (first|(with_reducible first|exact HB.out|apply below_alloc|apply pw_below_drewN|apply below_drew1|refine below_set ?_ GE588.out)|exact HB.out)):P_:=h_
theorem qy16 {P_:Prop} (h_:P_:=by repeat (first|(with_reducible first|exact HB.out|apply below_alloc|apply pw_below_drewN|apply below_drew1|refine below_set ?_ GE422.out)|exact HB.out)):P_:=h_
theorem qy17 {P_:Prop} (h_:P_:=by repeat (first|(with_reducible first|exact HB.out|apply below_alloc|apply pw_below_drewN|apply below_drew1|refine below_set ?_ GE375.out)|exact HB.out)):P_:=h_
theorem qy18 {P_:Prop} (h_:P_:=by repeat (first|(with_reducible first|exact HB.out|apply below_alloc|apply pw_below_drewN|apply below_drew1|refine below_set ?_ GE350.out)|exact HB.out)):P_:=h_
theorem qy19 {P_:Prop} (h_:P_:=by repeat (first|(with_reducible first|exact HB.out|apply below_alloc|apply pw_below_drewN|apply below_drew1|refine below_set ?_ GE300.out)|exact HB.out)):P_:=h_
theorem qy20 {P_:Prop} (h_:P_:=by repeat (first|(with_reducible first|exact HB.out|apply below_alloc|apply pw_below_drewN|apply below_drew1|refine below_set ?_ GE287.out)|exact HB.out)):P_:=h_
theorem qy21 {P_:Prop} (h_:P_:=by repeat (first|(with_reducible first|exact HB.out|apply below_alloc|apply pw_below_drewN|apply below_drew1|refine below_set ?_ GE284.out)|exact HB.out)):P_:=h_
theorem qy22 {P_:Prop} (h_:P_:=by repeat (first|(with_reducible first|exact HB.out|apply below_alloc|apply pw_below_drewN|apply below_drew1|refine below_set ?_ GE202.out)|exact HB.out)):P_:=h_
theorem qy23 {P_:Prop} (h_:P_:=by (with_reducible repeat (first|apply Kd.S_alloc|apply Kd.S_drewN|apply Kd.S_drew));exact Kd.S_mono HO_3.out (fun k_ hk=>⟨trivial,fun e_=>hk.2 e_⟩)):P_:=h_
theorem qy24 {P_:Prop} (h_:P_:=by repeat (first|(with_reducible first|exact HK.out|apply KeepBut.set_|apply keep_drewN|apply keep_drew|apply keep_alloc)|exact HK.out)):P_:=h_
theorem qy25 {P_:Prop} (h_:P_:=by first|exact q328|exact of_decide_eq_true (by first|(with_reducible assumption)|assumption)|(have e_:=(Kd.S_reads' HO_6.out).1;omega)):P_:=h_
theorem qy26 {P_:Prop} (h_:P_:=by first|exact q327|exact of_decide_eq_true (by first|(with_reducible assumption)|assumption)|(have e_:=(Kd.S_reads' HO_6.out).1;omega)):P_:=h_
theorem qy27 {P_:Prop} (h_:P_:=by (with_reducible repeat (first|apply Kd.R_alloc|apply Kd.R_drewN|apply Kd.R_drew));exact Kd.R_mono HO_6.out (fun _ hk=>⟨hk.1.2,hk.2⟩)):P_:=h_
theorem qy28 {P_:Prop} (h_:P_:=by (with_reducible repeat (first|apply Kd.R_alloc|apply Kd.R_drewN|apply Kd.R_drew));exact Kd.R_mono HO_3.out (fun _ hk=>⟨hk.2,hk.1⟩)):P_:=h_
theorem qy29 {P_:Prop} (h_:P_:=by (try simp only [List.map_toArray,List.map_cons,List.map_nil]);first|done|rfl|(simp only [List.length_drop,List.length_take];rfl)):P_:=h_
theorem qy30 {P_:Prop} (h_:P_:=by (with_reducible repeat (first|apply Kd.S_alloc|apply Kd.S_drewN|apply Kd.S_drew));exact Kd.S_mono HO_5.out (fun _ hk=>trivial)):P_:=h_
theorem qy31 {P_:Prop} (h_:P_:=by (with_reducible repeat (first|apply Kd.R_alloc|apply Kd.R_drewN|apply Kd.R_drew));exact Kd.R_mono HO560.out (fun _ hk=>hk.2)):P_:=h_
theorem qy32 {P_:Prop} (h_:P_:=by (with_reducible repeat (first|apply Kd.R_alloc|apply Kd.R_drewN|apply Kd.R_drew));exact Kd.R_mono HO556.out (fun _ hk=>hk.2)):P_:=h_
theorem qy33 {P_:Prop} (h_:P_:=by repeat (first|(with_reducible first|exact HB.out|apply below_alloc|apply pw_below_drewN|apply below_drew1)|exact HB.out)):P_:=h_
theorem qy34 {P_:Prop} (h_:P_:=by (with_reducible repeat (first|refine blk_drewN ?_ _|refine blk_drew ?_|refine blk_alloc ?_ _));exact BK603.out):P_:=h_
theorem qy35 {P_:Prop} (h_:P_:=by (with_reducible repeat (first|refine blk_drewN ?_ _|refine blk_drew ?_|refine blk_alloc ?_ _));exact BK602.out):P_:=h_
theorem qy36 {P_:Prop} (h_:P_:=by (with_reducible repeat (first|refine blk_drewN ?_ _|refine blk_drew ?_|refine blk_alloc ?_ _));exact BK601.out):P_:=h_
theorem qy37 {P_:Prop} (h_:P_:=by (with_reducible repeat (first|refine blk_drewN ?_ _|refine blk_drew ?_|refine blk_alloc ?_ _));exact BK599.out):P_:=h_
theorem qy38 {P_:Prop} (h_:P_:=by (with_reducible repeat (first|refine blk_drewN ?_ _|refine blk_drew ?_|refine blk_alloc ?_ _));exact BK588.out):P_:=h_
theorem qy39 {P_:Prop} (h_:P_:=by (with_reducible repeat (first|refine blk_drewN ?_ _|refine blk_drew ?_|refine blk_alloc ?_ _));exact BK422.out):P_:=h_
theorem qy40 {P_:Prop} (h_:P_:=by (with_reducible repeat (first|refine blk_drewN ?_ _|refine blk_drew ?_|refine blk_alloc ?_ _));exact BK375.out):P_:=h_
theorem qy41 {P_:Prop} (h_:P_:=by (with_reducible repeat (first|refine blk_drewN ?_ _|refine blk_drew ?_|refine blk_alloc ?_ _));exact BK350.out):P_:=h_
theorem qy42 {P_:Prop} (h_:P_:=by (with_reducible repeat (first|refine blk_drewN ?_ _|refine blk_drew ?_|refine blk_alloc ?_ _));exact BK300.out):P_:=h_
theorem qy43 {P_:Prop} (h_:P_:=by (with_reducible repeat (first|refine blk_drewN ?_ _|refine blk_drew ?_|refine blk_alloc ?_ _));exact BK287.out):P_:=h_
theorem qy44 {P_:Prop} (h_:P_:=by (with_reducible repeat (first|apply Kd.V_alloc|apply Kd.V_drewN|apply Kd.V_drew));exact HL580_0.out):P_:=h_
theorem qy45 {P_:Prop} (h_:P_:=by (with_reducible repeat (first|apply Kd.R_alloc|apply Kd.R_drewN|apply Kd.R_drew));exact HL428_0.out):P_:=h_
theorem qy46 {P_:Prop} (h_:P_:=by (with_reducible repeat (first|apply Kd.R_alloc|apply Kd.R_drewN|apply Kd.R_drew));exact HL355_0.out):P_:=h_
theorem qy47 {P_:Prop} (h_:P_:=by (with_reducible repeat (first|apply Kd.R_alloc|apply Kd.R_drewN|apply Kd.R_drew));exact HL294_0.out):P_:=h_
theorem qy48 {P_:Prop} (h_:P_:=by (with_reducible repeat (first|apply Kd.S_alloc|apply Kd.S_drewN|apply Kd.S_drew));exact HO490.out):P_:=h_
theorem qy49 {P_:Prop} (h_:P_:=by (with_reducible repeat (first|apply Kd.R_alloc|apply Kd.R_drewN|apply Kd.R_drew));exact HO560.out):P_:=h_
theorem qy50 {P_:Prop} (h_:P_:=by (with_reducible repeat (first|apply Kd.R_alloc|apply Kd.R_drewN|apply Kd.R_drew));exact HO556.out):P_:=h_
theorem qy51 {P_:Prop} (h_:P_:=by (with_reducible repeat (first|apply Kd.R_alloc|apply Kd.R_drewN|apply Kd.R_drew));exact HO455.out):P_:=h_
theorem qy52 {P_:Prop} (h_:P_:=by (with_reducible repeat (first|apply Kd.R_alloc|apply Kd.R_drewN|apply Kd.R_drew));exact HO436.out):P_:=h_
theorem qy53 {P_:Prop} (h_:P_:=by (with_reducible repeat (first|apply Kd.R_alloc|apply Kd.R_drewN|apply Kd.R_drew));exact HO236.out):P_:=h_
theorem qy54 {P_:Prop} (h_:P_:=by (with_reducible repeat (first|apply Kd.R_alloc|apply Kd.R_drewN|apply Kd.R_drew));exact HO156.out):P_:=h_
theorem qy55 {P_:Prop} (h_:P_:=by (with_reducible repeat (first|apply Kd.N_alloc|apply Kd.N_drewN|apply Kd.N_drew));exact HO593.out):P_:=h_
theorem qy56 {P_:Prop} (h_:P_:=by (with_reducible repeat (first|apply Kd.S_alloc|apply Kd.S_drewN|apply Kd.S_drew));exact HO_7.out):P_:=h_
theorem qy57 {P_:Prop} (h_:P_:=by (with_reducible repeat (first|apply Kd.S_alloc|apply Kd.S_drewN|apply Kd.S_drew));exact HO_6.out):P_:=h_
theorem qy58 {P_:Prop} (h_:P_:=by (with_reducible repeat (first|apply Kd.S_alloc|apply Kd.S_drewN|apply Kd.S_drew));exact HO_5.out):P_:=h_
theorem qy59 {P_:Prop} (h_:P_:=by (with_reducible repeat (first|apply Kd.S_alloc|apply Kd.S_drewN|apply Kd.S_drew));exact HO_3.out):P_:=h_
theorem qy60 {P_:Prop} (h_:P_:=by (with_reducible repeat (first|apply Kd.R_alloc|apply Kd.R_drewN|apply Kd.R_drew));exact HO_7.out):P_:=h_
theorem qy61 {P_:Prop} (h_:P_:=by (with_reducible repeat (first|apply Kd.R_alloc|apply Kd.R_drewN|apply Kd.R_drew));exact HO_6.out):P_:=h_
theorem qy62 {P_:Prop} (h_:P_:=by (with_reducible repeat (first|apply Kd.R_alloc|apply Kd.R_drewN|apply Kd.R_drew));exact HO_5.out):P_:=h_
theorem qy63 {P_:Prop} (h_:P_:=by (with_reducible repeat (first|apply Kd.R_alloc|apply Kd.R_drewN|apply Kd.R_drew));exact HO_3.out):P_:=h_
theorem qy64 {P_:Prop} (h_:P_:=by (with_reducible repeat (first|apply Kd.N_alloc|apply Kd.N_drewN|apply Kd.N_drew));exact HO_7.out):P_:=h_
theorem qy65 {P_:Prop} (h_:P_:=by (with_reducible repeat (first|apply Kd.N_alloc|apply Kd.N_drewN|apply Kd.N_drew));exact HO_5.out):P_:=h_
theorem qy66 {P_:Prop} (h_:P_:=by (with_reducible repeat (first|apply Kd.S_alloc|apply Kd.S_drewN|apply Kd.S_drew));exact HR.out):P_:=h_
theorem qy67 {P_:Prop} (h_:P_:=by simp only [putAll,Act.put,List.setIfInBounds_toArray,List.set_cons_zero,List.set_cons_succ]):P_:=h_
theorem qy68 {P_:Prop} (h_:P_:=by first|rfl|(simp [errW_none,errW_some]<;>rfl)|(simp [*,errW_none,errW_some]<;>rfl)):P_:=h_
theorem qy69 {P_:Prop} (h_:P_:=by have h_:=HJ.out.2.1;first|exact h_|(have e_:=(HN.out);omega)):P_:=h_
theorem qy70 {P_:Prop} (h_:P_:=by simp only [Value.ownBlock];exact congrArg some hg_.symm):P_:=h_
theorem qy71 {P_:Prop} (h_:P_:=by repeat (first|exact Drawn0.refl _|apply Drawn0.step)):P_:=h_
theorem qy72 {P_:Prop} (h_:P_:=by have:=HK1.out;have:=HK2.out;have:=HK3.out;omega):P_:=h_
theorem qy73 {P_:Prop} (h_:P_:=by first|(with_reducible assumption)|assumption):P_:=h_
theorem qy74 {P_:Prop} (h_:P_:=by first|exact hk.2.2|exact own_eqXdz3 hk.2.2):P_:=h_
theorem qy75 {P_:Prop} (h_:P_:=by first|exact hk.2.1|exact own_eqXdz3 hk.2.1):P_:=h_
theorem qy76 {P_:Prop} (h_:P_:=by first|rfl|(simp;done)|(simp [*];done)):P_:=h_
theorem qy77 {P_:Prop} (h_:P_:=by first|exact hk.1|exact own_eqXdz3 hk.1):P_:=h_
theorem qy78 {P_:Prop} (h_:P_:=by have:=HK1.out;have:=HK2.out;omega):P_:=h_
theorem qy79 {P_:Prop} (h_:P_:=by have:=HJ4.out;have:=HK2.out;omega):P_:=h_
theorem qy80 {P_:Prop} (h_:P_:=by first|omega|exact Nat.le_refl _):P_:=h_
theorem qy81 {P_:Prop} (h_:P_:=by have:=HK1.out;omega):P_:=h_
end Go.Proofs.YtaoecbpfocillaaGreat.Xdz
