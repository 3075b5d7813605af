-- Written by this session's own program (xprint.py) over the kit's print.py: functions, contracts and rows of the laws of one seat.
import Derived.Test.YtaoecbpfocillaaGreatZoXdz0
namespace Go.Proofs.YtaoecbpfocillaaGreat.Xdz
open Go.RowKit Go.Proofs.YtaoecbpfocillaaGreatW.PrintWords Go.Proofs.YtaoecbpfocillaaGreatW.PrintLast Go.Proofs.YtaoecbpfocillaaGreatW.PrintMore
attribute [local go_sem] max2_int min2_int max_two min_two max_three min_three max_four min_four -- for this text's walks alone
set_option linter.unusedVariables false
set_option linter.unusedSimpArgs false

/-! ### laws_vBig: function 5 -/
def laws_vBig.f (l0:List Int):Option (Bool):=some (decide ((l0.length:Int) > 65536))
set_option maxHeartbeats 8000000 in
set_option maxRecDepth 100000 in
theorem laws_vBig.calls (A0:Option Addr) (c0:Nat) (l0:List Int) (r:Bool) (w:World) (hr0:Kd.C (Kd.int .u8) w A0 l0.length l0) (hc0:l0.length≤c0) (h:laws_vBig.f l0=some r):
  Calls Tryz.prog 5 #[.slice A0 l0.length c0] w fun e w'=>e=.returned (.bool r)∧Drawn0 w w':=by
 have HR0:=qA hr0;have HC0:=qA hc0;clear hr0 hc0;have H:(some (decide ((l0.length:Int) > 65536)))=some r:=h;clear h;obtain rfl:=Option.some.inj H;go_enter Tryz.func5,Tryz.ntmps5
 go_wp2
 go_ret;exact ⟨qy76,qy71⟩

/-- A state of type 50 at block g of W; what its slices lead to came in by w0. -/
def IsS50 (w0 W:World) (g:Nat) (f0:List Int) (f1:Int) (f2:Int):Prop:=∃ A0 c0,W.heap[g]? =some (.cells #[.slice A0 f0.length c0,.int .i64 f1,.int .u64 f2] 50 (0,0))∧w0.heap.size≤g∧Kd.C (Kd.int .u8) w0 A0 f0.length f0
theorem IsS50.grown {w0 W:World} {g:Nat} {f0:List Int} {f1:Int} {f2:Int} {W1:World} {row:Option Nat} (h:IsS50 w0 W g f0 f1 f2) (hw:W.grownBy W1 row) (hne:some g≠row):IsS50 w0 W1 g f0 f1 f2:=by
 obtain ⟨A0,c0,hb,hg,hr0⟩:=h;exact ⟨A0,c0,blk_grown hb hw hne,hg,hr0⟩
theorem IsS50.fresh {w0 W:World} {g:Nat} {f0:List Int} {f1:Int} {f2:Int} (h:IsS50 w0 W g f0 f1 f2):∀ k,W.heap.size≤k→k≠g:=by
 obtain ⟨A0,c0,hb,hg,hr0⟩:=h;exact Kd.freshB hb
theorem IsS50.kept {w0 W:World} {g:Nat} {f0:List Int} {f1:Int} {f2:Int} {W1:World} {S:Nat→Prop} (h:IsS50 w0 W g f0 f1 f2) (hk:Kept W W1 S) (hne:¬ S g):IsS50 w0 W1 g f0 f1 f2:=by
 obtain ⟨A0,c0,hb,hg,hr0⟩:=h;exact ⟨A0,c0,blk_kept hb hk hne,hg,hr0⟩
theorem IsS50.below {w0 W:World} {g:Nat} {f0:List Int} {f1:Int} {f2:Int} {W1:World} (h:IsS50 w0 W g f0 f1 f2) (hw:Below W.heap.size W W1):IsS50 w0 W1 g f0 f1 f2:=h.grown (grown_of_below hw none) (by simp)
theorem IsS50.alloc {w0 W:World} {g:Nat} {f0:List Int} {f1:Int} {f2:Int} (h:IsS50 w0 W g f0 f1 f2) (o:Obj):IsS50 w0 (W.alloc o) g f0 f1 f2:=h.below (below_alloc (Below.refl _ _) o)
theorem IsS50.drewN {w0 W:World} {g:Nat} {f0:List Int} {f1:Int} {f2:Int} (h:IsS50 w0 W g f0 f1 f2) (m:Nat):IsS50 w0 (W.drewN m) g f0 f1 f2:=h
theorem IsS50.drew {w0 W:World} {g:Nat} {f0:List Int} {f1:Int} {f2:Int} (h:IsS50 w0 W g f0 f1 f2):IsS50 w0 W.drew g f0 f1 f2:=h
theorem IsS50.at_ {w0 W:World} {g:Nat} {f0:List Int} {f1:Int} {f2:Int} {w':World} {m:Nat} (hq:W.drewN m=w') (h:IsS50 w0 W g f0 f1 f2):IsS50 w0 w' g f0 f1 f2:=by subst hq;exact IsS50.drewN h m
theorem IsS50.apart {w0 W:World} {g:Nat} {f0:List Int} {f1:Int} {f2:Int} {α:Type} {d:Kd α} {e:Nat} {base:Nat} {ok:Nat→Prop} {v:Value} {xs:List α} (h:IsS50 w0 W g f0 f1 f2) (ho:d.R e W base ok v xs) (ht:∀ q,q ∈ e :: d.E→q≠50):d.R e W base (fun k=>ok k∧k≠g) v xs:=by
 obtain ⟨A0,c0,hb,hg,hr0⟩:=h;exact Kd.R_types ho hb ht
theorem IsS50.own_ne {w0 W:World} {g:Nat} {f0:List Int} {f1:Int} {f2:Int} {α:Type} {d:Kd α} {e:Nat} {base:Nat} {ok:Nat→Prop} {v:Value} {xs:List α} (h:IsS50 w0 W g f0 f1 f2) (ho:d.R e W base ok v xs) (ht:e≠50):some g≠v.ownBlock:=by
 obtain ⟨A0,c0,hb,hg,hr0⟩:=h;exact Kd.R_ne ho hb ht
theorem IsS50.apartS {w0 W:World} {g:Nat} {f0:List Int} {f1:Int} {f2:Int} {α:Type} {d:Kd α} {e:Nat} {base:Nat} {ok:Nat→Prop} {v:Value} {xs:List α} (h:IsS50 w0 W g f0 f1 f2) (ho:d.S e W base ok v xs) (ht:∀ q,q ∈ e :: d.E→q≠50):d.S e W base (fun k=>ok k∧k≠g) v xs:=by
 obtain ⟨A0,c0,hb,hg,hr0⟩:=h;exact Kd.S_types ho hb ht
theorem IsS50.own_neS {w0 W:World} {g:Nat} {f0:List Int} {f1:Int} {f2:Int} {α:Type} {d:Kd α} {e:Nat} {base:Nat} {ok:Nat→Prop} {v:Value} {xs:List α} (h:IsS50 w0 W g f0 f1 f2) (ho:d.S e W base ok v xs) (ht:e≠50):some g≠v.ownBlock:=by
 obtain ⟨A0,c0,hb,hg,hr0⟩:=h;exact Kd.S_ne ho hb ht
theorem IsS50.lt {w0 W:World} {g:Nat} {f0:List Int} {f1:Int} {f2:Int} (h:IsS50 w0 W g f0 f1 f2):g < W.heap.size:=by
 obtain ⟨A0,c0,hb,hg,hr0⟩:=h;exact blk_lt hb
theorem IsS50.ge {w0 W:World} {g:Nat} {f0:List Int} {f1:Int} {f2:Int} (h:IsS50 w0 W g f0 f1 f2):w0.heap.size≤g:=by
 obtain ⟨A0,c0,hb,hg,hr0⟩:=h;exact hg
theorem IsS50.far {w0 W:World} {g:Nat} {f0:List Int} {f1:Int} {f2:Int} {p:Addr} (h:IsS50 w0 W g f0 f1 f2) (hne:g≠p.block) (u:Value):IsS50 w0 (W.setCell p u) g f0 f1 f2:=by
 obtain ⟨A0,c0,hb,hg,hr0⟩:=h;exact ⟨A0,c0,blk_far hb hne u,hg,hr0⟩
theorem cellS50_0 {W:World} {g:Nat} {A0:Option Addr} {c0:Nat} {f0:List Int} {f1:Int} {f2:Int} (h:W.heap[g]? =some (.cells #[.slice A0 f0.length c0,.int .i64 f1,.int .u64 f2] 50 (0,0))):W.cell? ⟨g,0,none⟩=some (.slice A0 f0.length c0):=(blk_cell h 0).trans rfl
theorem cellS50_1 {W:World} {g:Nat} {A0:Option Addr} {c0:Nat} {f0:List Int} {f1:Int} {f2:Int} (h:W.heap[g]? =some (.cells #[.slice A0 f0.length c0,.int .i64 f1,.int .u64 f2] 50 (0,0))):W.cell? ⟨g,1,none⟩=some (.int .i64 f1):=(blk_cell h 1).trans rfl
theorem IsS50.set_1 {w0 W:World} {g:Nat} {f0:List Int} {f1:Int} {f2:Int} (h:IsS50 w0 W g f0 f1 f2) (x:Int):IsS50 w0 (W.setCell ⟨g,1,none⟩ (.int .i64 x)) g f0 x f2:=by
 obtain ⟨A0,c0,hb,hg,hr0⟩:=h;exact ⟨A0,c0,(by simpa using blk_set hb 1 (.int .i64 x)),hg,hr0⟩
theorem cellS50_2 {W:World} {g:Nat} {A0:Option Addr} {c0:Nat} {f0:List Int} {f1:Int} {f2:Int} (h:W.heap[g]? =some (.cells #[.slice A0 f0.length c0,.int .i64 f1,.int .u64 f2] 50 (0,0))):W.cell? ⟨g,2,none⟩=some (.int .u64 f2):=(blk_cell h 2).trans rfl
theorem IsS50.set_2 {w0 W:World} {g:Nat} {f0:List Int} {f1:Int} {f2:Int} (h:IsS50 w0 W g f0 f1 f2) (x:Int):IsS50 w0 (W.setCell ⟨g,2,none⟩ (.int .u64 x)) g f0 f1 x:=by
 obtain ⟨A0,c0,hb,hg,hr0⟩:=h;exact ⟨A0,c0,(by simpa using blk_set hb 2 (.int .u64 x)),hg,hr0⟩
theorem IsS50.new (w0 W:World) (A0:Option Addr) (c0:Nat) (f0:List Int) (f1:Int) (f2:Int) (hB:Below w0.heap.size w0 W) (hr0:Kd.C (Kd.int .u8) w0 A0 f0.length f0):IsS50 w0 (W.alloc (.cells #[.slice A0 f0.length c0,.int .i64 f1,.int .u64 f2] 50)) W.heap.size f0 f1 f2:=⟨A0,c0,(by simpa using heap_alloc_new W _),hB.size,hr0⟩

/-! ### spec_l1Cur_next: function 116 -/
def spec_l1Cur_next.f (s0_0:List Int) (s0_1:Int) (s0_2:Int):Option (Int × Int × Int):=if s0_1 < (s0_0.length:Int) then (if 0≤s0_1 then (if (wrap64 (s0_1+1))≤(s0_0.length:Int) then (some (wrap64 (rd s0_0 s0_1),wrap64 (s0_1+1),IntKind.u64.wrap ((IntKind.u64.wrap ((IntKind.u64.wrap (s0_2*6364136223846793005))+(IntKind.u64.wrap (wrap64 (rd s0_0 s0_1)))))+462197))) else (some (wrap64 (Go.bits .and .u64 ((IntKind.u64.wrap ((IntKind.u64.wrap ((IntKind.u64.wrap (s0_2*6364136223846793005))+(IntKind.u64.wrap (wrap64 (rd s0_0 s0_1)))))+462197)) / 1099511627776) 255),wrap64 (s0_1+1),IntKind.u64.wrap ((IntKind.u64.wrap ((IntKind.u64.wrap (s0_2*6364136223846793005))+(IntKind.u64.wrap (wrap64 (rd s0_0 s0_1)))))+462197)))) else (none)) else (if (wrap64 (s0_1+1))≤(s0_0.length:Int) then (some (0,wrap64 (s0_1+1),IntKind.u64.wrap ((IntKind.u64.wrap ((IntKind.u64.wrap (s0_2*6364136223846793005))))+462197))) else (some (wrap64 (Go.bits .and .u64 ((IntKind.u64.wrap ((IntKind.u64.wrap ((IntKind.u64.wrap (s0_2*6364136223846793005))))+462197)) / 1099511627776) 255),wrap64 (s0_1+1),IntKind.u64.wrap ((IntKind.u64.wrap ((IntKind.u64.wrap (s0_2*6364136223846793005))))+462197))))
set_option maxHeartbeats 8000000 in
set_option maxRecDepth 100000 in
theorem spec_l1Cur_next.calls (g:Nat) (s0_0:List Int) (s0_1:Int) (s0_2:Int) (r1:Int) (r2:Int) (r3:Int) (w0 w:World) (hI:IsS50 w0 w g s0_0 s0_1 s0_2) (hB:Below w0.heap.size w0 w) (h:spec_l1Cur_next.f s0_0 s0_1 s0_2=some (r1,r2,r3)):
  Calls Tryz.prog 116 #[.pointer (some ⟨g,0,none⟩)] w fun e w'=>e=.returned (.int .i64 r1)∧IsS50 w0 w' g s0_0 r2 r3∧Below w0.heap.size w0 w'∧KeepBut w w' g none:=by
 have HI0:=qA hI;have HK:=qA (KeepBut.refl w g none);have HL:=qA hB.size;clear hI;have HW0:=qA hB.size;have HB:=qA hB;clear hB;have H:(if s0_1 < (s0_0.length:Int) then (if 0≤s0_1 then (if (wrap64 (s0_1+1))≤(s0_0.length:Int) then (some (wrap64 (rd s0_0 s0_1),wrap64 (s0_1+1),IntKind.u64.wrap ((IntKind.u64.wrap ((IntKind.u64.wrap (s0_2*6364136223846793005))+(IntKind.u64.wrap (wrap64 (rd s0_0 s0_1)))))+462197))) else (some (wrap64 (Go.bits .and .u64 ((IntKind.u64.wrap ((IntKind.u64.wrap ((IntKind.u64.wrap (s0_2*6364136223846793005))+(IntKind.u64.wrap (wrap64 (rd s0_0 s0_1)))))+462197)) / 1099511627776) 255),wrap64 (s0_1+1),IntKind.u64.wrap ((IntKind.u64.wrap ((IntKind.u64.wrap (s0_2*6364136223846793005))+(IntKind.u64.wrap (wrap64 (rd s0_0 s0_1)))))+462197)))) else (none)) else (if (wrap64 (s0_1+1))≤(s0_0.length:Int) then (some (0,wrap64 (s0_1+1),IntKind.u64.wrap ((IntKind.u64.wrap ((IntKind.u64.wrap (s0_2*6364136223846793005))))+462197))) else (some (wrap64 (Go.bits .and .u64 ((IntKind.u64.wrap ((IntKind.u64.wrap ((IntKind.u64.wrap (s0_2*6364136223846793005))))+462197)) / 1099511627776) 255),wrap64 (s0_1+1),IntKind.u64.wrap ((IntKind.u64.wrap ((IntKind.u64.wrap (s0_2*6364136223846793005))))+462197)))))=some (r1,r2,r3):=h;clear h;by_cases c2:s0_1 < (s0_0.length:Int)
 ·rw [if_pos c2] at H;have c2b0:decide (s0_1 < (s0_0.length:Int))=true:=decide_eq_true c2;clear c2;by_cases c3:0≤s0_1
  ·rw [if_pos c3] at H;have c3b0:decide (0≤s0_1)=true:=decide_eq_true c3;clear c3;by_cases c4:(wrap64 (s0_1+1))≤(s0_0.length:Int)
   ·rw [if_pos c4] at H;have c4b0:decide ((wrap64 (s0_1+1))≤(s0_0.length:Int))=true:=decide_eq_true c4;clear c4;simp only [Option.some.injEq,Prod.mk.injEq] at H;obtain ⟨rfl,rfl,rfl⟩:=H;obtain ⟨ASz5_0,cSz5_0,HGz5,hgz5,HSz5_0⟩:=HI0.out;have hcz5_0:=cellS50_0 HGz5;have hcz5_1:=cellS50_1 HGz5;have hcz5_2:=cellS50_2 HGz5;have hfz5_1:=blk_frozen HGz5 1;have hfz5_2:=blk_frozen HGz5 2;clear HGz5 hgz5;have p101:0≤(s0_1:Int):=of_decide_eq_true qy73;have q101:s0_1 < (s0_0.length:Int):=of_decide_eq_true qy73;obtain ⟨ad101,e101,hx101_0⟩:=Kd.at_int HSz5_0 s0_1 p101 q101;cases e101;replace hx101_0:=pw_cell_below HB.out hx101_0;replace p101:=eq_true p101;replace q101:=eq_true q101;go_enter Tryz.func116,Tryz.ntmps116
    go_wp2
    repeat (go_quiet (fail);try go_wp2)
    go_ret;exact ⟨qy68,qy12,qy11,qy24⟩
   ·rw [if_neg c4] at H;have c4b0:decide ((wrap64 (s0_1+1))≤(s0_0.length:Int))=false:=decide_eq_false c4;clear c4;simp only [Option.some.injEq,Prod.mk.injEq] at H;obtain ⟨rfl,rfl,rfl⟩:=H;obtain ⟨ASz6_0,cSz6_0,HGz6,hgz6,HSz6_0⟩:=HI0.out;have hcz6_0:=cellS50_0 HGz6;have hcz6_1:=cellS50_1 HGz6;have hcz6_2:=cellS50_2 HGz6;have hfz6_1:=blk_frozen HGz6 1;have hfz6_2:=blk_frozen HGz6 2;clear HGz6 hgz6;have p101:0≤(s0_1:Int):=of_decide_eq_true qy73;have q101:s0_1 < (s0_0.length:Int):=of_decide_eq_true qy73;obtain ⟨ad101,e101,hx101_0⟩:=Kd.at_int HSz6_0 s0_1 p101 q101;cases e101;replace hx101_0:=pw_cell_below HB.out hx101_0;replace p101:=eq_true p101;replace q101:=eq_true q101;go_enter Tryz.func116,Tryz.ntmps116
    go_wp2
    repeat (go_quiet (fail);try go_wp2)
    go_ret;exact ⟨qy68,qy12,qy11,qy24⟩
  ·rw [if_neg c3] at H;exact absurd H (by simp)
 ·rw [if_neg c2] at H;have c2b0:decide (s0_1 < (s0_0.length:Int))=false:=decide_eq_false c2;clear c2;by_cases c7:(wrap64 (s0_1+1))≤(s0_0.length:Int)
  ·rw [if_pos c7] at H;have c7b0:decide ((wrap64 (s0_1+1))≤(s0_0.length:Int))=true:=decide_eq_true c7;clear c7;simp only [Option.some.injEq,Prod.mk.injEq] at H;obtain ⟨rfl,rfl,rfl⟩:=H;obtain ⟨ASz8_0,cSz8_0,HGz8,hgz8,HSz8_0⟩:=HI0.out;have hcz8_0:=cellS50_0 HGz8;have hcz8_1:=cellS50_1 HGz8;have hcz8_2:=cellS50_2 HGz8;have hfz8_1:=blk_frozen HGz8 1;have hfz8_2:=blk_frozen HGz8 2;clear HGz8 hgz8;go_enter Tryz.func116,Tryz.ntmps116
   go_wp2
   repeat (go_quiet (fail);try go_wp2)
   go_ret;exact ⟨qy68,qy12,qy11,qy24⟩
  ·rw [if_neg c7] at H;have c7b0:decide ((wrap64 (s0_1+1))≤(s0_0.length:Int))=false:=decide_eq_false c7;clear c7;simp only [Option.some.injEq,Prod.mk.injEq] at H;obtain ⟨rfl,rfl,rfl⟩:=H;obtain ⟨ASz9_0,cSz9_0,HGz9,hgz9,HSz9_0⟩:=HI0.out;have hcz9_0:=cellS50_0 HGz9;have hcz9_1:=cellS50_1 HGz9;have hcz9_2:=cellS50_2 HGz9;have hfz9_1:=blk_frozen HGz9 1;have hfz9_2:=blk_frozen HGz9 2;clear HGz9 hgz9;go_enter Tryz.func116,Tryz.ntmps116
   go_wp2
   repeat (go_quiet (fail);try go_wp2)
   go_ret;exact ⟨qy68,qy12,qy11,qy24⟩

/-! ### spec_l1Cur_pick: function 63 -/
def spec_l1Cur_pick.f (s0_0:List Int) (s0_1:Int) (s0_2:Int) (a1:Int):Option (Int × Int × Int):=if a1≤1 then (some (0,s0_1,s0_2)) else ((spec_l1Cur_next.f s0_0 s0_1 s0_2).bind fun bt102=>(if a1 > 200 then ((spec_l1Cur_next.f s0_0 bt102.2.1 bt102.2.2).bind fun bt105=>(if a1=0 then (none) else (some (Int.tmod (wrap64 ((wrap64 (bt102.1*256))+bt105.1)) a1,bt105.2.1,bt105.2.2)))) else (if a1=0 then (none) else (some (Int.tmod bt102.1 a1,bt102.2.1,bt102.2.2)))))
set_option maxHeartbeats 8000000 in
set_option maxRecDepth 100000 in
theorem spec_l1Cur_pick.calls (g:Nat) (s0_0:List Int) (s0_1:Int) (s0_2:Int) (a1:Int) (r1:Int) (r2:Int) (r3:Int) (w0 w:World) (hI:IsS50 w0 w g s0_0 s0_1 s0_2) (hB:Below w0.heap.size w0 w) (h:spec_l1Cur_pick.f s0_0 s0_1 s0_2 a1=some (r1,r2,r3)):
  Calls Tryz.prog 63 #[.pointer (some ⟨g,0,none⟩),.int .i64 a1] w fun e w'=>e=.returned (.int .i64 r1)∧IsS50 w0 w' g s0_0 r2 r3∧Below w0.heap.size w0 w'∧KeepBut w w' g none:=by
 have HI0:=qA hI;have HK:=qA (KeepBut.refl w g none);have HL:=qA hB.size;clear hI;have HW0:=qA hB.size;have HB:=qA hB;clear hB;have H:(if a1≤1 then (some (0,s0_1,s0_2)) else ((spec_l1Cur_next.f s0_0 s0_1 s0_2).bind fun bt102=>(if a1 > 200 then ((spec_l1Cur_next.f s0_0 bt102.2.1 bt102.2.2).bind fun bt105=>(if a1=0 then (none) else (some (Int.tmod (wrap64 ((wrap64 (bt102.1*256))+bt105.1)) a1,bt105.2.1,bt105.2.2)))) else (if a1=0 then (none) else (some (Int.tmod bt102.1 a1,bt102.2.1,bt102.2.2))))))=some (r1,r2,r3):=h;clear h;by_cases c3:a1≤1
 ·rw [if_pos c3] at H;have c3b0:decide (a1≤1)=true:=decide_eq_true c3;clear c3;simp only [Option.some.injEq,Prod.mk.injEq] at H;obtain ⟨rfl,rfl,rfl⟩:=H;go_enter Tryz.func63,Tryz.ntmps63
  go_wp2
  go_ret;exact ⟨qy68,qy12,qy11,qy24⟩
 ·rw [if_neg c3] at H;have c3b0:decide (a1≤1)=false:=decide_eq_false c3;clear c3;replace H:=Option.bind_eq_some_iff.mp H;obtain ⟨⟨t102,t103,t104⟩,A40,H⟩:=H;replace H:(if a1 > 200 then ((spec_l1Cur_next.f s0_0 t103 t104).bind fun bt105=>(if a1=0 then (none) else (some (Int.tmod (wrap64 ((wrap64 (t102*256))+bt105.1)) a1,bt105.2.1,bt105.2.2)))) else (if a1=0 then (none) else (some (Int.tmod t102 a1,t103,t104))))=some (r1,r2,r3):=H;have A4:=qA A40;clear A40;by_cases c5:a1 > 200
  ·rw [if_pos c5] at H;have c5b0:decide (200 < a1)=true:=decide_eq_true c5;clear c5;replace H:=Option.bind_eq_some_iff.mp H;obtain ⟨⟨t105,t106,t107⟩,A60,H⟩:=H;replace H:(if a1=0 then (none) else (some (Int.tmod (wrap64 ((wrap64 (t102*256))+t105)) a1,t106,t107)))=some (r1,r2,r3):=H;have A6:=qA A60;clear A60;by_cases c7:a1=0
   ·rw [if_pos c7] at H;exact absurd H (by simp)
   ·rw [if_neg c7] at H;have c7b0:(a1==0)=false:=beq_eq_false_iff_ne.mpr c7;have c7b1:(a1 != 0)=true:=bne_iff_ne.mpr c7;simp only [Option.some.injEq,Prod.mk.injEq] at H;obtain ⟨rfl,rfl,rfl⟩:=H;go_enter Tryz.func63,Tryz.ntmps63
    go_wp2_with (first|((with_reducible refine gate_callee (f:=116) rfl ?_);refine goesL_ (some 9) rfl rfl Tryz.func116 (by kernel_rfl) rfl #[.pointer (some ⟨g,0,none⟩)] rfl qy29 ?_;(with_reducible refine (spec_l1Cur_next.calls g s0_0 s0_1 s0_2 t102 t103 t104 w0 _ ?side1 ?side2 A4.out).mono ?_);(case side1=>repeat (first|(with_reducible first|exact HI0.out|apply IsS50.alloc|apply IsS50.drewN|apply IsS50.drew|apply IsS50.set_1|apply IsS50.set_2)|exact HI0.out));(case side2=>repeat (first|(with_reducible first|exact HB.out|apply below_alloc|apply pw_below_drewN|apply below_drew1|refine below_set ?_ (IsS50.ge HI0.out))|exact HB.out));rintro e w8 ⟨rfl,hi,hb,hk⟩;refine ⟨_,rfl,?_⟩;have n0_:=qA (KeepBut.trans qy24 hk (.inl rfl));have n1_:=qA (hb);have n2_:=qA (hi);clear HK;clear HB;clear HI0;have HK:=n0_;have HB:=n1_;have HI0:=n2_;clear n0_ n1_ n2_;(try clear hb);(try clear hb2);(try clear hk);(try clear hi))|((with_reducible refine gate_callee (f:=116) rfl ?_);refine goesL_ (some 15) rfl rfl Tryz.func116 (by kernel_rfl) rfl #[.pointer (some ⟨g,0,none⟩)] rfl qy29 ?_;(with_reducible refine (spec_l1Cur_next.calls g s0_0 t103 t104 t105 t106 t107 w0 _ ?side1 ?side2 A6.out).mono ?_);(case side1=>repeat (first|(with_reducible first|exact HI0.out|apply IsS50.alloc|apply IsS50.drewN|apply IsS50.drew|apply IsS50.set_1|apply IsS50.set_2)|exact HI0.out));(case side2=>repeat (first|(with_reducible first|exact HB.out|apply below_alloc|apply pw_below_drewN|apply below_drew1|refine below_set ?_ (IsS50.ge HI0.out))|exact HB.out));rintro e w9 ⟨rfl,hi,hb,hk⟩;refine ⟨_,rfl,?_⟩;have n0_:=qA (KeepBut.trans qy24 hk (.inl rfl));have n1_:=qA (hb);have n2_:=qA (hi);clear HK;clear HB;clear HI0;have HK:=n0_;have HB:=n1_;have HI0:=n2_;clear n0_ n1_ n2_;(try clear hb);(try clear hb2);(try clear hk);(try clear hi)))
    go_ret;exact ⟨qy68,qy12,qy11,qy24⟩
  ·rw [if_neg c5] at H;have c5b0:decide (200 < a1)=false:=decide_eq_false c5;clear c5;by_cases c10:a1=0
   ·rw [if_pos c10] at H;exact absurd H (by simp)
   ·rw [if_neg c10] at H;have c10b0:(a1==0)=false:=beq_eq_false_iff_ne.mpr c10;have c10b1:(a1 != 0)=true:=bne_iff_ne.mpr c10;simp only [Option.some.injEq,Prod.mk.injEq] at H;obtain ⟨rfl,rfl,rfl⟩:=H;go_enter Tryz.func63,Tryz.ntmps63
    go_wp2_with (first|((with_reducible refine gate_callee (f:=116) rfl ?_);refine goesL_ (some 9) rfl rfl Tryz.func116 (by kernel_rfl) rfl #[.pointer (some ⟨g,0,none⟩)] rfl qy29 ?_;(with_reducible refine (spec_l1Cur_next.calls g s0_0 s0_1 s0_2 t102 t103 t104 w0 _ ?side1 ?side2 A4.out).mono ?_);(case side1=>repeat (first|(with_reducible first|exact HI0.out|apply IsS50.alloc|apply IsS50.drewN|apply IsS50.drew|apply IsS50.set_1|apply IsS50.set_2)|exact HI0.out));(case side2=>repeat (first|(with_reducible first|exact HB.out|apply below_alloc|apply pw_below_drewN|apply below_drew1|refine below_set ?_ (IsS50.ge HI0.out))|exact HB.out));rintro e w11 ⟨rfl,hi,hb,hk⟩;refine ⟨_,rfl,?_⟩;have n0_:=qA (KeepBut.trans qy24 hk (.inl rfl));have n1_:=qA (hb);have n2_:=qA (hi);clear HK;clear HB;clear HI0;have HK:=n0_;have HB:=n1_;have HI0:=n2_;clear n0_ n1_ n2_;(try clear hb);(try clear hb2);(try clear hk);(try clear hi)))
    go_ret;exact ⟨qy68,qy12,qy11,qy24⟩

/-! ### spec_l1Cur_among: function 62 -/
def spec_l1Cur_among.f (s0_0:List Int) (s0_1:Int) (s0_2:Int) (l1:List Int):Option (Int × Int × Int):=(spec_l1Cur_pick.f s0_0 s0_1 s0_2 (l1.length:Int)).bind fun bt108=>(if 0≤bt108.1 then (if bt108.1 < (l1.length:Int) then (some (rd l1 bt108.1,bt108.2.1,bt108.2.2)) else (none)) else (none))
set_option maxHeartbeats 8000000 in
set_option maxRecDepth 100000 in
theorem spec_l1Cur_among.calls (g:Nat) (s0_0:List Int) (s0_1:Int) (s0_2:Int) (A1:Option Addr) (c1:Nat) (l1:List Int) (r1:Int) (r2:Int) (r3:Int) (w0 w:World) (hI:IsS50 w0 w g s0_0 s0_1 s0_2) (hB:Below w0.heap.size w0 w) (hr1:Kd.C (Kd.int .i64) w A1 l1.length l1) (hc1:l1.length≤c1) (hf1:∀ ad,A1=some ad→0 < l1.length→ad.block≠g) (h:spec_l1Cur_among.f s0_0 s0_1 s0_2 l1=some (r1,r2,r3)):
  Calls Tryz.prog 62 #[.pointer (some ⟨g,0,none⟩),.slice A1 l1.length c1] w fun e w'=>e=.returned (.int .i64 r1)∧IsS50 w0 w' g s0_0 r2 r3∧Below w0.heap.size w0 w'∧KeepBut w w' g none:=by
 have HR1:=qA hr1;have HC1:=qA hc1;clear hr1 hc1;have HI0:=qA hI;have HK:=qA (KeepBut.refl w g none);have HL:=qA hB.size;clear hI;have HW0:=qA hB.size;have HB:=qA hB;clear hB;have H:((spec_l1Cur_pick.f s0_0 s0_1 s0_2 (l1.length:Int)).bind fun bt108=>(if 0≤bt108.1 then (if bt108.1 < (l1.length:Int) then (some (rd l1 bt108.1,bt108.2.1,bt108.2.2)) else (none)) else (none)))=some (r1,r2,r3):=h;clear h;replace H:=Option.bind_eq_some_iff.mp H;obtain ⟨⟨t108,t109,t110⟩,A30,H⟩:=H;replace H:(if 0≤t108 then (if t108 < (l1.length:Int) then (some (rd l1 t108,t109,t110)) else (none)) else (none))=some (r1,r2,r3):=H;have A3:=qA A30;clear A30;by_cases c4:0≤t108
 ·rw [if_pos c4] at H;have c4b0:decide (0≤t108)=true:=decide_eq_true c4;clear c4;by_cases c5:t108 < (l1.length:Int)
  ·rw [if_pos c5] at H;have c5b0:decide (t108 < (l1.length:Int))=true:=decide_eq_true c5;clear c5;simp only [Option.some.injEq,Prod.mk.injEq] at H;obtain ⟨rfl,rfl,rfl⟩:=H;go_enter Tryz.func62,Tryz.ntmps62
   go_wp2_with (first|((with_reducible refine gate_callee (f:=63) rfl ?_);refine goesL_ (some 9) rfl rfl Tryz.func63 (by kernel_rfl) rfl #[.pointer (some ⟨g,0,none⟩),.int .i64 (l1.length:Int)] rfl qy29 ?_;(with_reducible refine (spec_l1Cur_pick.calls g s0_0 s0_1 s0_2 (l1.length:Int) t108 t109 t110 w0 _ ?side1 ?side2 A3.out).mono ?_);(case side1=>repeat (first|(with_reducible first|exact HI0.out|apply IsS50.alloc|apply IsS50.drewN|apply IsS50.drew|apply IsS50.set_1|apply IsS50.set_2)|exact HI0.out));(case side2=>repeat (first|(with_reducible first|exact HB.out|apply below_alloc|apply pw_below_drewN|apply below_drew1|refine below_set ?_ (IsS50.ge HI0.out))|exact HB.out));rintro e w6 ⟨rfl,hi,hb,hk⟩;refine ⟨_,rfl,?_⟩;have n0_:=qA (KeepBut.trans qy24 hk (.inl rfl));have n1_:=qA (hb);have n2_:=qA (hi);clear HK;clear HB;clear HI0;have HK:=n0_;have HB:=n1_;have HI0:=n2_;clear n0_ n1_ n2_;(try clear hb);(try clear hb2);(try clear hk);(try clear hi);have p111:0≤(t108:Int):=of_decide_eq_true qy73;have q111:t108 < (l1.length:Int):=of_decide_eq_true qy73;obtain ⟨ad111,e111,hx111_0⟩:=Kd.at_int HR1.out t108 p111 q111;cases e111;replace hx111_0:=keep_cell HK.out hx111_0 (by first|(rw [add_block];exact hf1 _ rfl (by omega))|exact hf1 _ rfl (by omega)|exact hf1 ad111 rfl (by omega));replace p111:=eq_true p111;replace q111:=eq_true q111))
   go_ret;exact ⟨qy68,qy12,qy11,qy24⟩
  ·rw [if_neg c5] at H;exact absurd H (by simp)
 ·rw [if_neg c4] at H;exact absurd H (by simp)

/-! ### spec_l1Cur_drawn9: function 44 -/
def spec_l1Cur_drawn9.f (s0_0:List Int) (s0_1:Int) (s0_2:Int):Option (Int × Int × Int):=(some (([4,3,5,2,1,6,0,7,(-1)]:List Int):List Int)).bind fun y112=>((spec_l1Cur_pick.f s0_0 s0_1 s0_2 24).bind fun bt115=>(if 0≤(wrap64 (6+(wrap64 (Int.tdiv bt115.1 8)))) then (if (wrap64 (6+(wrap64 (Int.tdiv bt115.1 8))))≤(y112.length:Int) then ((spec_l1Cur_among.f s0_0 bt115.2.1 bt115.2.2 (y112.take ((wrap64 (6+(wrap64 (Int.tdiv bt115.1 8)))):Int).toNat)).bind fun bt122=>(some (bt122.1,bt122.2.1,bt122.2.2))) else (none)) else (none)))
set_option maxHeartbeats 8000000 in
set_option maxRecDepth 100000 in
theorem spec_l1Cur_drawn9.calls (g:Nat) (s0_0:List Int) (s0_1:Int) (s0_2:Int) (r1:Int) (r2:Int) (r3:Int) (w0 w:World) (hI:IsS50 w0 w g s0_0 s0_1 s0_2) (hB:Below w0.heap.size w0 w) (h:spec_l1Cur_drawn9.f s0_0 s0_1 s0_2=some (r1,r2,r3)):
  Calls Tryz.prog 44 #[.pointer (some ⟨g,0,none⟩)] w fun e w'=>e=.returned (.int .i64 r1)∧IsS50 w0 w' g s0_0 r2 r3∧Below w0.heap.size w0 w'∧KeepBut w w' g none:=by
 have HI0:=qA hI;have HK:=qA (KeepBut.refl w g none);have HL:=qA hB.size;clear hI;have HW0:=qA hB.size;have HB:=qA hB;clear hB;have H:((some (([4,3,5,2,1,6,0,7,(-1)]:List Int):List Int)).bind fun y112=>((spec_l1Cur_pick.f s0_0 s0_1 s0_2 24).bind fun bt115=>(if 0≤(wrap64 (6+(wrap64 (Int.tdiv bt115.1 8)))) then (if (wrap64 (6+(wrap64 (Int.tdiv bt115.1 8))))≤(y112.length:Int) then ((spec_l1Cur_among.f s0_0 bt115.2.1 bt115.2.2 (y112.take ((wrap64 (6+(wrap64 (Int.tdiv bt115.1 8)))):Int).toNat)).bind fun bt122=>(some (bt122.1,bt122.2.1,bt122.2.2))) else (none)) else (none))))=some (r1,r2,r3):=h;clear h
 obtain ⟨y112,hy112⟩:∃ y_:List Int,y_=(([4,3,5,2,1,6,0,7,(-1)]:List Int)):=⟨_,rfl⟩
 replace H:((spec_l1Cur_pick.f s0_0 s0_1 s0_2 24).bind fun bt115=>(if 0≤(wrap64 (6+(wrap64 (Int.tdiv bt115.1 8)))) then (if (wrap64 (6+(wrap64 (Int.tdiv bt115.1 8))))≤(y112.length:Int) then ((spec_l1Cur_among.f s0_0 bt115.2.1 bt115.2.2 (y112.take ((wrap64 (6+(wrap64 (Int.tdiv bt115.1 8)))):Int).toNat)).bind fun bt122=>(some (bt122.1,bt122.2.1,bt122.2.2))) else (none)) else (none)))=some (r1,r2,r3):=by first|(rw [hy112];with_reducible exact H)|(have H2_:=(Option.bind_some _ _).symm.trans H;rw [hy112];with_reducible exact H2_)|(have H2_:=(Option.bind_some _ _).symm.trans H;with_reducible exact H2_)|with_reducible exact H|(rw [hy112];exact H)|exact H
 have Ny112:=qA hy112;clear hy112;replace H:=Option.bind_eq_some_iff.mp H;obtain ⟨⟨t115,t116,t117⟩,A20,H⟩:=H;replace H:(if 0≤(wrap64 (6+(wrap64 (Int.tdiv t115 8)))) then (if (wrap64 (6+(wrap64 (Int.tdiv t115 8))))≤(y112.length:Int) then ((spec_l1Cur_among.f s0_0 t116 t117 (y112.take ((wrap64 (6+(wrap64 (Int.tdiv t115 8)))):Int).toNat)).bind fun bt122=>(some (bt122.1,bt122.2.1,bt122.2.2))) else (none)) else (none))=some (r1,r2,r3):=H;have A2:=qA A20;clear A20
 obtain ⟨ji3,hji3⟩:∃ j_:Int,(wrap64 (6+(wrap64 (Int.tdiv t115 8))))=j_:=⟨_,rfl⟩
 replace H:(if 0≤(ji3) then (if (ji3)≤(y112.length:Int) then ((spec_l1Cur_among.f s0_0 t116 t117 (y112.take ((ji3):Int).toNat)).bind fun bt122=>(some (bt122.1,bt122.2.1,bt122.2.2))) else (none)) else (none))=some (r1,r2,r3):=by first|(rw [hji3] at H;exact H)|(simp only [hji3] at H ⊢;exact H)
 (try rw [hji3] at A2)
 have hji3w:(IntKind.i64.wrap (6+(wrap64 (Int.tdiv t115 8))))=ji3:=(i64_w _).trans hji3;by_cases c4:0≤(ji3)
 ·rw [if_pos c4] at H;have c4b0:=eq_true c4;have c4b1:decide (0≤(ji3))=true:=decide_eq_true c4;clear c4;by_cases c5:(ji3)≤(y112.length:Int)
  ·rw [if_pos c5] at H;have c5b0:=eq_true c5;have c5b1:decide ((ji3)≤(y112.length:Int))=true:=decide_eq_true c5;clear c5
   obtain ⟨y118,hy118⟩:∃ y_:List Int,y_=(y112.take ((ji3):Int).toNat):=⟨_,rfl⟩
   replace H:((spec_l1Cur_among.f s0_0 t116 t117 y118).bind fun bt122=>(some (bt122.1,bt122.2.1,bt122.2.2)))=some (r1,r2,r3):=by first|(rw [hy118];with_reducible exact H)|(have H2_:=(Option.bind_some _ _).symm.trans H;rw [hy118];with_reducible exact H2_)|(have H2_:=(Option.bind_some _ _).symm.trans H;with_reducible exact H2_)|with_reducible exact H|(rw [hy118];exact H)|exact H
   have Ny118:=qA hy118;clear hy118;replace H:=Option.bind_eq_some_iff.mp H;obtain ⟨⟨t122,t123,t124⟩,A60,H⟩:=H;replace H:(some (t122,t123,t124))=some (r1,r2,r3):=H;have A6:=qA A60;clear A60;simp only [Option.some.injEq,Prod.mk.injEq] at H;obtain ⟨rfl,rfl,rfl⟩:=H;go_enter Tryz.func44,Tryz.ntmps44
   go_wp2_with (first|((with_reducible refine gate_dst (N:=4) rfl ?_);refine Kd.R_lit (Kd.int .i64) _ 3 ?hg (N:=4) ?hd (xs:=([4,3,5,2,1,6,0,7,(-1)]:List Int)) (inner:=[.int .i64 4,.int .i64 3,.int .i64 5,.int .i64 2,.int .i64 1,.int .i64 6,.int .i64 0,.int .i64 7,.int .i64 (-1)]) (ok:=fun _=>True) (okp:=fun _=>True) ?hr ?hp (fun _ hk=>hk) trivial (Below.refl _ _) (Nat.le_refl _) (by simp) ?_;(case hd=>rfl);(case hg=>rfl);(case hr=>first|(go_simp;done)|(go_simp;rfl));(case hp=>exact (Reps.one (show Kd.M (Kd.int .i64) _ _ _ 4 [.int .i64 4] from rfl) (Reps.one (show Kd.M (Kd.int .i64) _ _ _ 3 [.int .i64 3] from rfl) (Reps.one (show Kd.M (Kd.int .i64) _ _ _ 5 [.int .i64 5] from rfl) (Reps.one (show Kd.M (Kd.int .i64) _ _ _ 2 [.int .i64 2] from rfl) (Reps.one (show Kd.M (Kd.int .i64) _ _ _ 1 [.int .i64 1] from rfl) (Reps.one (show Kd.M (Kd.int .i64) _ _ _ 6 [.int .i64 6] from rfl) (Reps.one (show Kd.M (Kd.int .i64) _ _ _ 0 [.int .i64 0] from rfl) (Reps.one (show Kd.M (Kd.int .i64) _ _ _ 7 [.int .i64 7] from rfl) (Reps.one (show Kd.M (Kd.int .i64) _ _ _ (-1) [.int .i64 (-1)] from rfl) (Reps.none _ _)))))))))));intro v113 w7 ho8 hb hg_ hnew_;clear hg_ hnew_;(first|rw [← Ny112.out] at ho8|(simp only [Int.reduceToNat] at ho8;rw [← Ny112.out] at ho8));have n0_:=qA (Kd.R_lower ho8 (keep_size (w:=w) (g:=g) (row:=none) qy24));have n1_:=qA (IsS50.below qy12 hb);have n2_:=qA (KeepBut.trans qy24 (KeepBut.of_below hb g none) (.inl rfl));have n3_:=qA (below_step qy11 hb);clear HI0;clear HK;clear HB;have HO114:=n0_;have HI0:=n1_;have HK:=n2_;have HB:=n3_;clear n0_ n1_ n2_ n3_;clear hb ho8)|((with_reducible refine gate_callee (f:=63) rfl ?_);refine goesL_ (some 6) rfl rfl Tryz.func63 (by kernel_rfl) rfl #[.pointer (some ⟨g,0,none⟩),.int .i64 24] rfl qy29 ?_;(with_reducible refine (spec_l1Cur_pick.calls g s0_0 s0_1 s0_2 24 t115 t116 t117 w0 _ ?side1 ?side2 A2.out).mono ?_);(case side1=>repeat (first|(with_reducible first|exact HI0.out|apply IsS50.alloc|apply IsS50.drewN|apply IsS50.drew|apply IsS50.set_1|apply IsS50.set_2)|exact HI0.out));(case side2=>repeat (first|(with_reducible first|exact HB.out|apply below_alloc|apply pw_below_drewN|apply below_drew1|refine below_set ?_ (IsS50.ge HI0.out))|exact HB.out));rintro e w9 ⟨rfl,hi,hb,hk⟩;refine ⟨_,rfl,?_⟩;have n0_:=qA (Kd.R_mono (Kd.R_keep (IsS50.apart (show IsS50 w0 _ g s0_0 s0_1 s0_2 from by repeat (first|(with_reducible first|exact HI0.out|apply IsS50.alloc|apply IsS50.drewN|apply IsS50.drew|apply IsS50.set_1|apply IsS50.set_2)|exact HI0.out)) (by (with_reducible repeat (first|apply Kd.R_alloc|apply Kd.R_drewN|apply Kd.R_drew));exact HO114.out) (by decide)) hk (fun _ h=>h.2)) (fun _ h=>h.1));have n1_:=qA (KeepBut.trans qy24 hk (.inl rfl));have n2_:=qA (hb);have n3_:=qA (hi);clear HO114;clear HK;clear HB;clear HI0;have HO114:=n0_;have HK:=n1_;have HB:=n2_;have HI0:=n3_;clear n0_ n1_ n2_ n3_;(try clear hb);(try clear hb2);(try clear hk);(try clear hi);obtain ⟨Ao11,co11,eo11⟩:=Kd.R_slice HO114.out;subst eo11;have q10:((ji3):Int)≤((y112.length:Int):Int):=of_decide_eq_true qy73;obtain ⟨i010,hi010,_,hsz10,_⟩:=info_parts info3;have hroom10:y112.length≤co11:=(Kd.R_reads' HO114.out).2.1;have hC10:Kd.C (Kd.int .i64) _ Ao11 y112.length y112:=(Kd.R_reads' HO114.out).2.2;have hcut10:=cut_to (P:=Tryz.prog) 36 3 .i64 Tryz.underlying36 hi010 Ao11 y112.length co11 (ji3) (of_decide_eq_true qy73) q10 hroom10;have hr10:=Kd.C_take (m:=((ji3):Int).toNat) hC10 (by omega);have hy10:y118.length=((ji3):Int).toNat:=(by rw [Ny118.out,List.length_take];omega);rw [← Ny118.out] at hr10;rw [← hy10] at hcut10;have HR121:=qA hr10;have HC121:=qA (show y118.length≤co11 from by omega);clear hr10 hC10 hroom10 hi010 hsz10;have KY10:=qA hy10;clear hy10;have KL10:=qA (show ((ji3):Int).toNat≤y112.length from by omega);replace q10:=eq_true q10)|((with_reducible refine gate_callee (f:=62) rfl ?_);refine goesL_ (some 10) rfl rfl Tryz.func62 (by kernel_rfl) rfl #[.pointer (some ⟨g,0,none⟩),.slice Ao11 y118.length co11] rfl qy29 ?_;(with_reducible refine (spec_l1Cur_among.calls g s0_0 t116 t117 _ _ y118 t122 t123 t124 w0 _ ?side1 ?side2 ?side3 ?side4 ?side5 A6.out).mono ?_);(case side1=>repeat (first|(with_reducible first|exact HI0.out|apply IsS50.alloc|apply IsS50.drewN|apply IsS50.drew|apply IsS50.set_1|apply IsS50.set_2)|exact HI0.out));(case side2=>repeat (first|(with_reducible first|exact HB.out|apply below_alloc|apply pw_below_drewN|apply below_drew1|refine below_set ?_ (IsS50.ge HI0.out))|exact HB.out));(case side3=>repeat (first|exact (by repeat (first|(with_reducible exact HR121.out)|(with_reducible refine Kd.C_alloc ?_ _)|(with_reducible refine Kd.C_drewN ?_ _)|(with_reducible refine Kd.C_drew ?_)|exact HR121.out))|(with_reducible refine Kd.C_alloc ?_ _)|(with_reducible refine Kd.C_drewN ?_ _)|(with_reducible refine Kd.C_drew ?_)));(case side4=>exact HC121.out);(case side5=>intro ad_ he_ _ hg_;cases he_;exact (IsS50.own_ne HI0.out HO114.out (by decide)) qy70);rintro e w12 ⟨rfl,hi,hb,hk⟩;refine ⟨_,rfl,?_⟩;have n0_:=qA (Kd.R_mono (Kd.R_keep (IsS50.apart (show IsS50 w0 _ g s0_0 t116 t117 from by repeat (first|(with_reducible first|exact HI0.out|apply IsS50.alloc|apply IsS50.drewN|apply IsS50.drew|apply IsS50.set_1|apply IsS50.set_2)|exact HI0.out)) (by (with_reducible repeat (first|apply Kd.R_alloc|apply Kd.R_drewN|apply Kd.R_drew));exact HO114.out) (by decide)) hk (fun _ h=>h.2)) (fun _ h=>h.1));have n1_:=qA (KeepBut.trans qy24 hk (.inl rfl));have n2_:=qA (hb);have n3_:=qA (hi);clear HO114;clear HK;clear HB;clear HI0;have HO114:=n0_;have HK:=n1_;have HB:=n2_;have HI0:=n3_;clear n0_ n1_ n2_ n3_;(try clear hb);(try clear hb2);(try clear hk);(try clear hi)))
   go_ret;exact ⟨(by first|rfl|(simp [errW_none,errW_some]<;>rfl)|(simp only [← hji3];first|rfl|(simp [errW_none,errW_some]<;>rfl))|(simp [*,errW_none,errW_some]<;>rfl)),qy12,qy11,qy24⟩
  ·rw [if_neg c5] at H;exact absurd H (by simp)
 ·rw [if_neg c4] at H;exact absurd H (by simp)

/-! ### spec_DrawChanceSorts: function 6 -/
def spec_DrawChanceSorts.f (l0:List Int):Option (Int):=(spec_l1Cur_drawn9.f l0 0 0).bind fun bt126=>(some bt126.1)
set_option maxHeartbeats 8000000 in
set_option maxRecDepth 100000 in
theorem spec_DrawChanceSorts.calls (A0:Option Addr) (c0:Nat) (l0:List Int) (r:Int) (w:World) (hr0:Kd.C (Kd.int .u8) w A0 l0.length l0) (hc0:l0.length≤c0) (h:spec_DrawChanceSorts.f l0=some r):
  Calls Tryz.prog 6 #[.slice A0 l0.length c0] w fun e w'=>e=.returned (.int .i64 r)∧Below w.heap.size w w':=by
 have hu50:=Tryz.underlying50;have HR0:=qA hr0;have HC0:=qA hc0;clear hr0 hc0;have HB:=qA (Below.refl w.heap.size w);have H:((spec_l1Cur_drawn9.f l0 0 0).bind fun bt126=>(some bt126.1))=some r:=h;clear h;replace H:=Option.bind_eq_some_iff.mp H;obtain ⟨⟨t126,t127,t128⟩,A20,H⟩:=H;replace H:(some t126)=some r:=H;have A2:=qA A20;clear A20;obtain rfl:=Option.some.inj H;go_enter Tryz.func6,Tryz.ntmps6
 go_wp2_with (first|((with_reducible refine gate_dst (N:=6) rfl ?_);refine box_event ?hg (N:=6) ?hd (cs:= #[.slice A0 l0.length c0,.int .i64 0,.int .u64 0]) (t:=50) ?hr ?_;(case hd=>rfl);(case hg=>rfl);(case hr=>first|(go_simp;done)|(go_simp;rfl));intro gb125 hg w3 hbox hb;have n0_:=qA (below_step qy33 hb);have n1_:=qA ((show IsS50 w w3 gb125 l0 0 0 from ⟨_,_,hbox,(by rw [hg];exact (below_size qy33):w.heap.size≤gb125),HR0.out⟩));clear HB;have HB:=n0_;have HI125:=n1_;clear n0_ n1_;clear hb hbox hg)|((with_reducible refine gate_callee (f:=44) rfl ?_);refine goesL_ (some 8) rfl rfl Tryz.func44 (by kernel_rfl) rfl #[.pointer (some ⟨gb125,0,none⟩)] rfl qy29 ?_;(with_reducible refine (spec_l1Cur_drawn9.calls gb125 l0 0 0 t126 t127 t128 w _ ?side1 ?side2 A2.out).mono ?_);(case side1=>repeat (first|(with_reducible first|exact HI125.out|apply IsS50.alloc|apply IsS50.drewN|apply IsS50.drew|apply IsS50.set_1|apply IsS50.set_2)|exact HI125.out));(case side2=>repeat (first|(with_reducible first|exact HB.out|apply below_alloc|apply pw_below_drewN|apply below_drew1|refine below_set ?_ (IsS50.ge HI125.out))|exact HB.out));rintro e w4 ⟨rfl,hi,hb,hk⟩;refine ⟨_,rfl,?_⟩;have n0_:=qA (hb);have n1_:=qA (hi);clear HB;clear HI125;have HB:=n0_;have HI125:=n1_;clear n0_ n1_;(try clear hb);(try clear hb2);(try clear hk);(try clear hi)))
 go_ret;exact ⟨qy68,(by repeat (first|(with_reducible first|exact HB.out|apply below_alloc|apply pw_below_drewN|apply below_drew1|refine below_set ?_ (IsS50.ge HI125.out))|exact HB.out))⟩

/-! ### cmp_isNaN_int: function 161 -/
def cmp_isNaN_int.f (a0:Int):Option (Bool):=some (a0 != a0)
set_option maxHeartbeats 8000000 in
set_option maxRecDepth 100000 in
theorem cmp_isNaN_int.calls (a0:Int) (r:Bool) (w:World) (h:cmp_isNaN_int.f a0=some r):
  Calls Tryz.prog 161 #[.int .i64 a0] w fun e w'=>e=.returned (.bool r)∧Drawn0 w w':=by
 have H:(some (a0 != a0))=some r:=h;clear h;obtain rfl:=Option.some.inj H;go_enter Tryz.func161,Tryz.ntmps161
 go_wp2
 go_ret;exact ⟨qy76,qy71⟩

/-! ### cmp_Less_int: function 145 -/
def cmp_Less_int.f (a0:Int) (a1:Int):Option (Bool):=(cmp_isNaN_int.f a0).bind fun t129=>(if t129=true then ((cmp_isNaN_int.f a1).bind fun t130=>(if t130=true then (some (decide (a0 < a1))) else (some true))) else (some (decide (a0 < a1))))
set_option maxHeartbeats 8000000 in
set_option maxRecDepth 100000 in
theorem cmp_Less_int.calls (a0:Int) (a1:Int) (r:Bool) (w:World) (h:cmp_Less_int.f a0 a1=some r):
  Calls Tryz.prog 145 #[.int .i64 a0,.int .i64 a1] w fun e w'=>e=.returned (.bool r)∧Drawn0 w w':=by
 have H:((cmp_isNaN_int.f a0).bind fun t129=>(if t129=true then ((cmp_isNaN_int.f a1).bind fun t130=>(if t130=true then (some (decide (a0 < a1))) else (some true))) else (some (decide (a0 < a1)))))=some r:=h;clear h;replace H:=Option.bind_eq_some_iff.mp H;obtain ⟨t129,A30,H⟩:=H;replace H:(if t129=true then ((cmp_isNaN_int.f a1).bind fun t130=>(if t130=true then (some (decide (a0 < a1))) else (some true))) else (some (decide (a0 < a1))))=some r:=H;have A3:=qA A30;clear A30;by_cases c4:t129=true
 ·subst c4;have H1:((cmp_isNaN_int.f a1).bind fun t130=>(if t130=true then (some (decide (a0 < a1))) else (some true)))=some r:=by rw [if_pos rfl] at H;exact H
  clear H;have H:=H1;clear H1;replace H:=Option.bind_eq_some_iff.mp H;obtain ⟨t130,A50,H⟩:=H;replace H:(if t130=true then (some (decide (a0 < a1))) else (some true))=some r:=H;have A5:=qA A50;clear A50;by_cases c6:t130=true
  ·subst c6;have H1:(some (decide (a0 < a1)))=some r:=by rw [if_pos rfl] at H;exact H
   clear H;have H:=H1;clear H1;obtain rfl:=Option.some.inj H;go_enter Tryz.func145,Tryz.ntmps145
   go_wp2_with (first|((with_reducible refine gate_callee (f:=161) rfl ?_);refine goesL_ (some 6) rfl rfl Tryz.func161 (by kernel_rfl) rfl #[.int .i64 a0] rfl qy29 ?_;(with_reducible refine (cmp_isNaN_int.calls a0 true _ A3.out).mono ?_);rintro e w' ⟨rfl,⟨nd,rfl⟩⟩;refine ⟨_,rfl,?_⟩)|(go_at_call 161;(with_reducible refine (cmp_isNaN_int.calls a1 true _ A5.out).mono ?_);rintro e w' ⟨rfl,⟨nd,rfl⟩⟩))
   go_ret;exact ⟨qy76,qy71⟩
  ·replace c6:=Bool.eq_false_iff.mpr c6;subst c6;have H1:(some true)=some r:=by rw [if_neg (show ¬ (false=true) by decide)] at H;exact H
   clear H;have H:=H1;clear H1;obtain rfl:=Option.some.inj H;go_enter Tryz.func145,Tryz.ntmps145
   go_wp2_with (first|((with_reducible refine gate_callee (f:=161) rfl ?_);refine goesL_ (some 6) rfl rfl Tryz.func161 (by kernel_rfl) rfl #[.int .i64 a0] rfl qy29 ?_;(with_reducible refine (cmp_isNaN_int.calls a0 true _ A3.out).mono ?_);rintro e w' ⟨rfl,⟨nd,rfl⟩⟩;refine ⟨_,rfl,?_⟩)|(go_at_call 161;(with_reducible refine (cmp_isNaN_int.calls a1 false _ A5.out).mono ?_);rintro e w' ⟨rfl,⟨nd,rfl⟩⟩))
   go_ret;exact ⟨qy76,qy71⟩
 ·replace c4:=Bool.eq_false_iff.mpr c4;subst c4;have H1:(some (decide (a0 < a1)))=some r:=by rw [if_neg (show ¬ (false=true) by decide)] at H;exact H
  clear H;have H:=H1;clear H1;obtain rfl:=Option.some.inj H;go_enter Tryz.func145,Tryz.ntmps145
  go_wp2_with (first|((with_reducible refine gate_callee (f:=161) rfl ?_);refine goesL_ (some 6) rfl rfl Tryz.func161 (by kernel_rfl) rfl #[.int .i64 a0] rfl qy29 ?_;(with_reducible refine (cmp_isNaN_int.calls a0 false _ A3.out).mono ?_);rintro e w' ⟨rfl,⟨nd,rfl⟩⟩;refine ⟨_,rfl,?_⟩))
  go_ret;exact ⟨qy76,qy71⟩

/-! ### slices_IsSorted_int_int: function 114 -/
def slices_IsSorted_int_int.l0:Nat→List Int→Int→Option (Bool)
 |0,_,_=>none
 |k+1,x0,x3=>if x3 > 0 then (if 0≤x3 then (if x3 < (x0.length:Int) then (if 0≤(wrap64 (x3 - 1)) then (if (wrap64 (x3 - 1)) < (x0.length:Int) then ((cmp_Less_int.f (rd x0 x3) (rd x0 (wrap64 (x3 - 1)))).bind fun t133=>(if t133=true then (some false) else (slices_IsSorted_int_int.l0 k x0 (wrap64 (x3 - 1))))) else (none)) else (none)) else (none)) else (none)) else (some true)
def slices_IsSorted_int_int.f (k:Nat) (l0:List Int):Option (Bool):=slices_IsSorted_int_int.l0 k l0 (wrap64 ((l0.length:Int) - 1))
theorem slices_IsSorted_int_int.mono_l:∀ k,(∀ y0 y1,LeO (slices_IsSorted_int_int.l0 k y0 y1) (slices_IsSorted_int_int.l0 (k+1) y0 y1))
 |0=>fun _ _ r h=>by simp [slices_IsSorted_int_int.l0] at h
 |k+1=>by
  have ih0:=slices_IsSorted_int_int.mono_l k
  ·intro y0 y1;unfold slices_IsSorted_int_int.l0
   repeat' first
   |(with_reducible exact ih0 _ _)
   |(with_reducible exact LeO.refl _)
   |(with_reducible exact LeO.none _)
   |(with_reducible refine LeO.ite ?_ ?_)
   |(with_reducible refine LeO.bind ?_ (fun _=>?_))
   |exact ih0 _ _
   |exact LeO.none _
   |refine LeO.ite ?_ ?_
   |refine LeO.bind ?_ (fun _=>?_)
theorem slices_IsSorted_int_int.mono:∀ a0 k,LeO (slices_IsSorted_int_int.f k a0) (slices_IsSorted_int_int.f (k+1) a0):=by
 intro a0 k;have ih0:=slices_IsSorted_int_int.mono_l k;unfold slices_IsSorted_int_int.f
 repeat' first
   |(with_reducible exact ih0 _ _)
   |(with_reducible exact LeO.refl _)
   |(with_reducible exact LeO.none _)
   |(with_reducible refine LeO.ite ?_ ?_)
   |(with_reducible refine LeO.bind ?_ (fun _=>?_))
   |exact ih0 _ _
   |exact LeO.none _
   |refine LeO.ite ?_ ?_
   |refine LeO.bind ?_ (fun _=>?_)
set_option maxHeartbeats 8000000 in
set_option maxRecDepth 100000 in
theorem slices_IsSorted_int_int.calls (k:Nat) (A0:Option Addr) (c0:Nat) (l0:List Int) (r:Bool) (w:World) (hr0:Kd.C (Kd.int .i64) w A0 l0.length l0) (hc0:l0.length≤c0) (h:slices_IsSorted_int_int.f k l0=some r):
  Calls Tryz.prog 114 #[.slice A0 l0.length c0] w fun e w'=>e=.returned (.bool r)∧Drawn0 w w':=by
 have HR0:=qA hr0;have HC0:=qA hc0;clear hr0 hc0;have H:(slices_IsSorted_int_int.l0 k l0 (wrap64 ((l0.length:Int) - 1)))=some r:=h;clear h;have H':=qA H;clear H;go_enter Tryz.func114,Tryz.ntmps114
 go_wp2
 repeat (go_quiet (fail);try go_wp2)
 go_loopg [3] k (fun kq v3 w'=>∃ (x3_1:Int),v3=.int .i64 x3_1∧Aside0 (slices_IsSorted_int_int.l0 kq l0 x3_1=some r)∧Aside0 (kq≤k)∧Drawn0 w w')
 case atStart=>exact ⟨(wrap64 ((l0.length:Int) - 1)),qy76,H',⟨Nat.le_refl _⟩,qy71⟩
 case round=>
  clear H'
  try clear c1
  obtain ⟨x3_1,rfl,HA,HK1,⟨m1,rfl⟩⟩:=hrel
  cases gk with
  |zero=>exact absurd HA.out (by simp [slices_IsSorted_int_int.l0])
  |succ k1=>
   have H:=HA.out;clear HA;simp only [slices_IsSorted_int_int.l0] at H;by_cases c2:x3_1 > 0
   ·rw [if_pos c2] at H;have c2b0:decide (0 < x3_1)=true:=decide_eq_true c2;clear c2;by_cases c3:0≤x3_1
    ·rw [if_pos c3] at H;have c3b0:decide (0≤x3_1)=true:=decide_eq_true c3;clear c3;by_cases c4:x3_1 < (l0.length:Int)
     ·rw [if_pos c4] at H;have c4b0:decide (x3_1 < (l0.length:Int))=true:=decide_eq_true c4;clear c4
      obtain ⟨ji5,hji5⟩:∃ j_:Int,(wrap64 (x3_1 - 1))=j_:=⟨_,rfl⟩
      replace H:(if 0≤(ji5) then (if (ji5) < (l0.length:Int) then ((cmp_Less_int.f (rd l0 x3_1) (rd l0 (ji5))).bind fun t133=>(if t133=true then (some false) else (slices_IsSorted_int_int.l0 k1 l0 ji5))) else (none)) else (none))=some r:=by first|(rw [hji5] at H;exact H)|(simp only [hji5] at H ⊢;exact H)
      have hji5w:(IntKind.i64.wrap (x3_1 - 1))=ji5:=(i64_w _).trans hji5;by_cases c6:0≤(ji5)
      ·rw [if_pos c6] at H;have c6b0:decide (0≤(ji5))=true:=decide_eq_true c6;clear c6;by_cases c7:(ji5) < (l0.length:Int)
       ·rw [if_pos c7] at H;have c7b0:decide ((ji5) < (l0.length:Int))=true:=decide_eq_true c7;clear c7;replace H:=Option.bind_eq_some_iff.mp H;obtain ⟨t133,A80,H⟩:=H;replace H:(if t133=true then (some false) else (slices_IsSorted_int_int.l0 k1 l0 ji5))=some r:=H;have A8:=qA A80;clear A80;by_cases c9:t133=true
        ·subst c9;have H1:(some false)=some r:=by rw [if_pos rfl] at H;exact H
         clear H;have H:=H1;clear H1;obtain rfl:=Option.some.inj H;have p131:0≤(x3_1:Int):=of_decide_eq_true qy73;have q131:x3_1 < (l0.length:Int):=of_decide_eq_true qy73;obtain ⟨ad131,e131,hx131_0⟩:=Kd.at_int HR0.out x3_1 p131 q131;cases e131;replace p131:=eq_true p131;replace q131:=eq_true q131;have p132:0≤((ji5):Int):=of_decide_eq_true qy73;have q132:(ji5) < (l0.length:Int):=of_decide_eq_true qy73;obtain ⟨ad132,e132,hx132_0⟩:=Kd.at_int HR0.out (ji5) p132 q132
         obtain rfl:ad131=ad132:=(by injection e132)
         replace p132:=eq_true p132;replace q132:=eq_true q132
         go_wp2_with (first|(go_at_call 145;(with_reducible refine (cmp_Less_int.calls (rd l0 x3_1) (rd l0 (ji5)) true _ A8.out).mono ?_);rintro e w' ⟨rfl,⟨nd,rfl⟩⟩;(try first|exact ⟨rfl,_,World.drewN_drewN _ _ _⟩|exact ⟨rfl,_,Eq.trans (World.drewN_drewN _ _ _) (congrArg (World.drewN _) (Nat.add_assoc _ _ _))⟩)))
         repeat (go_quiet (first|(go_at_call 145;(with_reducible refine (cmp_Less_int.calls (rd l0 x3_1) (rd l0 (ji5)) true _ A8.out).mono ?_);rintro e w' ⟨rfl,⟨nd,rfl⟩⟩;(try first|exact ⟨rfl,_,World.drewN_drewN _ _ _⟩|exact ⟨rfl,_,Eq.trans (World.drewN_drewN _ _ _) (congrArg (World.drewN _) (Nat.add_assoc _ _ _))⟩)));try go_wp2_with (first|(go_at_call 145;(with_reducible refine (cmp_Less_int.calls (rd l0 x3_1) (rd l0 (ji5)) true _ A8.out).mono ?_);rintro e w' ⟨rfl,⟨nd,rfl⟩⟩;(try first|exact ⟨rfl,_,World.drewN_drewN _ _ _⟩|exact ⟨rfl,_,Eq.trans (World.drewN_drewN _ _ _) (congrArg (World.drewN _) (Nat.add_assoc _ _ _))⟩))))
         go_ret;exact ⟨(by first|rfl|(simp;done)|(simp only [← hji5]<;>(first|rfl|simp))|(simp [*];done)),qy71⟩
        ·replace c9:=Bool.eq_false_iff.mpr c9;subst c9;have H1:(slices_IsSorted_int_int.l0 k1 l0 ji5)=some r:=by rw [if_neg (show ¬ (false=true) by decide)] at H;exact H
         clear H;have H:=H1;clear H1;have H':=qA H;clear H;have p131:0≤(x3_1:Int):=of_decide_eq_true qy73;have q131:x3_1 < (l0.length:Int):=of_decide_eq_true qy73;obtain ⟨ad131,e131,hx131_0⟩:=Kd.at_int HR0.out x3_1 p131 q131;cases e131;replace p131:=eq_true p131;replace q131:=eq_true q131;have p132:0≤((ji5):Int):=of_decide_eq_true qy73;have q132:(ji5) < (l0.length:Int):=of_decide_eq_true qy73;obtain ⟨ad132,e132,hx132_0⟩:=Kd.at_int HR0.out (ji5) p132 q132
         obtain rfl:ad131=ad132:=(by injection e132)
         replace p132:=eq_true p132;replace q132:=eq_true q132
         go_wp2_with (first|(go_at_call 145;(with_reducible refine (cmp_Less_int.calls (rd l0 x3_1) (rd l0 (ji5)) false _ A8.out).mono ?_);rintro e w' ⟨rfl,⟨nd,rfl⟩⟩;(try first|exact ⟨rfl,_,World.drewN_drewN _ _ _⟩|exact ⟨rfl,_,Eq.trans (World.drewN_drewN _ _ _) (congrArg (World.drewN _) (Nat.add_assoc _ _ _))⟩)))
         repeat (go_quiet (first|(go_at_call 145;(with_reducible refine (cmp_Less_int.calls (rd l0 x3_1) (rd l0 (ji5)) false _ A8.out).mono ?_);rintro e w' ⟨rfl,⟨nd,rfl⟩⟩;(try first|exact ⟨rfl,_,World.drewN_drewN _ _ _⟩|exact ⟨rfl,_,Eq.trans (World.drewN_drewN _ _ _) (congrArg (World.drewN _) (Nat.add_assoc _ _ _))⟩)));try go_wp2_with (first|(go_at_call 145;(with_reducible refine (cmp_Less_int.calls (rd l0 x3_1) (rd l0 (ji5)) false _ A8.out).mono ?_);rintro e w' ⟨rfl,⟨nd,rfl⟩⟩;(try first|exact ⟨rfl,_,World.drewN_drewN _ _ _⟩|exact ⟨rfl,_,Eq.trans (World.drewN_drewN _ _ _) (congrArg (World.drewN _) (Nat.add_assoc _ _ _))⟩))))
         go_roundg k1
         case measure=>have:=HK1.out;omega
         case rel=>exact ⟨(ji5),(by first|rfl|(simp;done)|(simp only [← hji5]<;>(first|rfl|simp))|(simp [*];done)),H',⟨qy81⟩,qy71⟩
       ·rw [if_neg c7] at H;exact absurd H (by simp)
      ·rw [if_neg c6] at H;exact absurd H (by simp)
     ·rw [if_neg c4] at H;exact absurd H (by simp)
    ·rw [if_neg c3] at H;exact absurd H (by simp)
   ·rw [if_neg c2] at H;have c2b0:decide (0 < x3_1)=false:=decide_eq_false c2;clear c2;obtain rfl:=Option.some.inj H
    go_wp2
    repeat (go_quiet (fail);try go_wp2)
    go_ret;exact ⟨qy76,qy71⟩

/-! ### impl_isSorted: function 58 -/
def impl_isSorted.f (k:Nat) (l0:List Int):Option (Bool):=(slices_IsSorted_int_int.f k l0).bind fun t134=>(some t134)
theorem impl_isSorted.mono:∀ a0 k,LeO (impl_isSorted.f k a0) (impl_isSorted.f (k+1) a0):=by
 intro a0 k;unfold impl_isSorted.f
 repeat' first
   |(with_reducible exact slices_IsSorted_int_int.mono _ _)
   |(with_reducible exact LeO.refl _)
   |(with_reducible exact LeO.none _)
   |(with_reducible refine LeO.ite ?_ ?_)
   |(with_reducible refine LeO.bind ?_ (fun _=>?_))
   |exact slices_IsSorted_int_int.mono _ _
   |exact LeO.none _
   |refine LeO.ite ?_ ?_
   |refine LeO.bind ?_ (fun _=>?_)
set_option maxHeartbeats 8000000 in
set_option maxRecDepth 100000 in
theorem impl_isSorted.calls (k:Nat) (A0:Option Addr) (c0:Nat) (l0:List Int) (r:Bool) (w:World) (hr0:Kd.C (Kd.int .i64) w A0 l0.length l0) (hc0:l0.length≤c0) (h:impl_isSorted.f k l0=some r):
  Calls Tryz.prog 58 #[.slice A0 l0.length c0] w fun e w'=>e=.returned (.bool r)∧Drawn0 w w':=by
 have HR0:=qA hr0;have HC0:=qA hc0;clear hr0 hc0;have H:((slices_IsSorted_int_int.f k l0).bind fun t134=>(some t134))=some r:=h;clear h;replace H:=Option.bind_eq_some_iff.mp H;obtain ⟨t134,A20,H⟩:=H;replace H:(some t134)=some r:=H;have A2:=qA A20;clear A20;obtain rfl:=Option.some.inj H;go_enter Tryz.func58,Tryz.ntmps58
 go_wp2_with (first|((with_reducible refine gate_callee (f:=114) rfl ?_);refine goesL_ (some 4) rfl rfl Tryz.func114 (by kernel_rfl) rfl #[.slice A0 l0.length c0] rfl qy29 ?_;(with_reducible refine (slices_IsSorted_int_int.calls k _ _ l0 t134 _ ?side1 ?side2 A2.out).mono ?_);(case side1=>repeat (first|exact HR0.out|(with_reducible refine Kd.C_alloc ?_ _)|(with_reducible refine Kd.C_drewN ?_ _)|(with_reducible refine Kd.C_drew ?_)));(case side2=>exact HC0.out);rintro e w' ⟨rfl,⟨nd,rfl⟩⟩;refine ⟨_,rfl,?_⟩))
 go_ret;exact ⟨qy76,qy71⟩

end Go.Proofs.YtaoecbpfocillaaGreat.Xdz
