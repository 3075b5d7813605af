/- spec.l5Queues by hand. -/
import Derived.Test.YtaoecbpfocillaaGreatZoXdz0
import Derived.Test.YtaoecbpfocillaaGreatZoXdzHsruns
import Derived.OneCell
import Derived.Lib.SliceRun
import Derived.Deep.CutBlock
import Derived.Deep.CutRange
namespace Go.Proofs.YtaoecbpfocillaaGreat.Xdz
open Go.RowKit Go.Proofs.YtaoecbpfocillaaGreatW.PrintWords Go.Proofs.YtaoecbpfocillaaGreatW.PrintLast Go.Proofs.YtaoecbpfocillaaGreatW.PrintMore
attribute [local go_sem] max2_int min2_int max_two min_two max_three min_three max_four min_four
set_option linter.unusedVariables false
set_option linter.unusedSimpArgs false
/-- Whether a row ends with a number above x. -/
def lastGt (x:Int) (q:List Int):Bool:=decide (x < rd q ((q.length:Int) - 1))
def findK (x:Int):List (List Int)→Nat
  |[]=>0
  |q :: t=>if lastGt x q=true then findK x t+1 else 0
theorem findK_le (x:Int):∀ rs,findK x rs≤rs.length
  |[]=>Nat.le_refl _
  |q :: t=>by
    have:=findK_le x t;unfold findK
    split<;>simp<;>omega
def sqN (x:Int) (rs:List (List Int)):List (List Int):=if findK x rs=rs.length then rs++[[]] else rs
def sqS (x:Int) (rs:List (List Int)):List (List Int):=(sqN x rs).set (findK x rs) ((sqN x rs).getD (findK x rs) []++[x])
def sqO:List Int→List (List Int)→Option (List (List Int))
  |[],rs=>some rs
  |x :: t,rs=>if rs.length≤1000∧(rs.all fun q=>decide (0 < q.length∧q.length≤999))=true then sqO t (sqS x rs) else none
def spec_l5Queues.f (_:Nat) (l:List Int):Option (List (List Int)):=if l.length≤1000 then sqO l [] else none
theorem spec_l5Queues.mono:∀ a0 k,LeO (spec_l5Queues.f k a0) (spec_l5Queues.f (k+1) a0):=fun _ _=>LeO.refl _
theorem sq_drop (l:List Int) (i:Nat) (h:i < l.length):l.drop i=rd l (i:Int) :: l.drop (i+1):=by
  unfold rd;rw [Int.toNat_natCast,List.drop_eq_getElem_cons h];simp [h]
theorem sq_dropL (l:List (List Int)) (i:Nat) (h:i < l.length):l.drop i=l.getD i [] :: l.drop (i+1):=by
  rw [List.drop_eq_getElem_cons h];simp [h]
theorem sq_row {w:World} {A:Option Addr} {n:Nat} {xs:List (List Int)} (h:Kd.C (Kd.slice 3 (Kd.int .i64)) w A n xs) (i:Nat) (h1:i < n):∃ ad A0 c0,A=some ad∧w.cell? (ad.add i)=some (.slice A0 (xs.getD i []).length c0)∧(Kd.int .i64).C w A0 (xs.getD i []).length (xs.getD i []):=by
  obtain ⟨ad,c,e,_,hK,hc0⟩:=Kd.C_get h ([]:List Int) (i:Int) (by omega) (by omega);rw [Int.toNat_natCast] at hK hc0;have hc:∀ j u,c[j]? =some u→w.cell? (ad.add (i*1+j))=some u:=hc0;obtain ⟨A0,c0,rfl,l0,g0⟩:=hK;exact ⟨ad,A0,c0,e,by have hq:=hc 0 _ rfl;rwa [Nat.mul_one,Nat.add_zero] at hq,g0⟩
def sq_T6:Bool × List (List Nat × List Nat):=(true,[([],[]),([],[]),([1],[1]),([0,2],[0,2]),([3],[3]),([4],[4]),([4],[4]),([5,6,4],[4,5,6]),([7,4],[4,7]),([4],[4]),([4],[4]),([9,10,4],[4,9,10]),([11,4],[4,11]),([12,4],[4,12]),([13,4],[4,13]),([8,14,4],[4,8,14]),([15,4],[4,15]),([4],[4]),([4],[4]),([17,18,4],[4,17,18]),([19,4],[4,19]),([16,20,4],[4,16,20]),([4,21],[4,21])])
def sq_B6:List Nat:=[0,0,2,7,15,31,31,127,255,31,31,1567,3615,7711,15903,32767,65535,31,31,393247,917535,2097151,4194303]
theorem sq_tab6:rtab .any (opsOf Tryz.f68 6)=sq_T6:=by kernel_rfl
theorem sq_bits6:waitsOk sq_T6.2 sq_B6=true:=by kernel_rfl
def sq_T:Bool × List (List Nat × List Nat):=(true,[([],[]),([],[]),([],[]),([],[]),([2,3],[2,3]),([4],[4]),([],[]),([],[]),([6,7],[6,7]),([8],[8]),([9],[9]),([5,10],[5,10]),([0,1,0,1,2,3,4,5,6,7,8,9,10,11],[0,1]),([12,11,11,0,1,2,3,4,5,6,7,8,9,10,11],[11,12])])
def sq_B:List Nat:=[0,0,0,0,12,28,0,0,192,448,960,2044,4095,8191]
theorem sq_tab:rtab .any (opsOf Tryz.f68 10)=sq_T:=by kernel_rfl
theorem sq_bits:waitsOk sq_T.2 sq_B=true:=by kernel_rfl
set_option maxHeartbeats 16000000 in
set_option maxRecDepth 100000 in
theorem spec_l5Queues.calls (k:Nat) (A0:Option Addr) (c0:Nat) (l0:List Int) (r:List (List Int)) (w:World) (hr0:Kd.C (Kd.int .i64) w A0 l0.length l0) (hc0:l0.length≤c0) (h:spec_l5Queues.f k l0=some r):
    Calls Tryz.prog 68 #[.slice A0 l0.length c0] w fun e w'=>∃ v0_:Value,e=.returned (v0_)∧Kd.S (Kd.slice 3 (Kd.int .i64)) 36 w' w.heap.size (fun _=>True) v0_ r∧Below w.heap.size w w':=by
  unfold spec_l5Queues.f at h;by_cases hll:l0.length≤1000
  case neg=>rw [if_neg hll] at h;cases h
  rw [if_pos hll] at h;have H:=qA h;have HR0:=qA hr0;have HC0:=qA hc0;have HLL:=qA hll;have HB:=qA (Below.refl w.heap.size w);clear hr0 hc0 hll h;go_enter Tryz.func68,Tryz.ntmps68
  go_wp2_with ((with_reducible refine gate_dst (N:=6) rfl ?_);refine Kd.S_lit (Kd.slice 3 (Kd.int .i64)) (w0:=w) w.heap.size 36 ?hg (N:=6) ?hd (xs:=([]:List (List Int))) (inner:=[]) (ok:=fun _=>True) (okp:=fun _=>True) ?hr ?hp (fun _ hk=>hk) trivial (HB.out) (Nat.le_refl _) (by simp) ?_;(case hd=>rfl);(case hg=>rfl);(case hr=>first|(go_simp;done)|(go_simp;rfl));(case hp=>exact (Reps.none _ _));intro v9 w9 ho9 hb hg_ hnew_;have HT:=qA ho9;clear HB;have HB:=qA hb;clear hg_ hnew_ hb ho9)
  go_loopg [3,4] l0.length (fun kq v3 v4 wr=>∃ (i:Nat) (rs:List (List Int)),v4=.int .i64 (i:Int)∧Aside0 (i+kq=l0.length)∧Aside0 (sqO (l0.drop i) rs=some r)∧Aside0 (Kd.S (Kd.slice 3 (Kd.int .i64)) 36 wr w.heap.size (fun _=>True) v3 rs)∧Aside0 (Below w.heap.size w wr))
  case atStart=>exact ⟨0,[],rfl,⟨by omega⟩,H,HT,HB⟩
  case round=>
    clear HT HB H;obtain ⟨i,rs,rfl,HK,HS,HT,HB⟩:=hrel;by_cases hi:i < l0.length
    · obtain ⟨k1,hk1⟩:∃ k1,gk=k1+1:=⟨gk - 1,by have:=HK.out;omega⟩
      subst hk1;have hi0:decide (0≤(i:Int))=true:=decide_eq_true (by omega);have hi1:decide (i < l0.length)=true:=decide_eq_true hi;have pi0:=eq_true (show (0:Int)≤(i:Int) by omega);have pi1:=eq_true hi;have pi2:=eq_true (show (i:Int) < (l0.length:Int) by omega);have hs:=HS.out;rw [sq_drop l0 i hi] at hs;simp only [sqO] at hs;by_cases hck:rs.length≤1000∧(rs.all fun q=>decide (0 < q.length∧q.length≤999))=true
      case neg=>rw [if_neg hck] at hs;cases hs
      rw [if_pos hck] at hs;obtain ⟨ad,ead,hcw⟩:=Kd.at_int HR0.out (i:Int) (by omega) (by omega);subst ead;rw [Int.toNat_natCast] at hcw;have E1:=qA (show wrap64 ((i:Int)+1)=((i+1:Nat):Int) by have:=HLL.out;unfold wrap64;omega);have HUL:=qA hck.1;have HRO:=qA (fun (j:Nat) (hj:j < rs.length)=>(by have h2:=List.all_eq_true.1 hck.2 (rs.getD j []) (by simp [hj]);exact of_decide_eq_true h2:0 < (rs.getD j []).length∧(rs.getD j []).length≤999));have HCW:=qA hcw;have HIL:=qA hi;generalize rd l0 (i:Int)=x at hcw HCW hs;have HS2:=qA hs;clear hs hcw hi hck HS;obtain ⟨At,ct,et⟩:=Kd.S_slice HT.out;subst et;have HFL:=qA (findK_le x rs)
      go_upto_block 2 with fail
      go_cut [5] from 13 to 37 (fun v5 wx=>v5=.int .i64 ((findK x rs:Nat):Int)∧Aside0 (Kd.S (Kd.slice 3 (Kd.int .i64)) 36 wx w.heap.size (fun _=>True) (.slice At rs.length ct) rs)∧Aside0 (Below w.heap.size w wx))
      case first=>
        go_wp2_with fail
        go_loopg [5] rs.length (fun kq v5 wr=>∃ (j:Nat),v5=.int .i64 (j:Int)∧Aside0 (j+kq=rs.length)∧Aside0 (j+findK x (rs.drop j)=findK x rs)∧Aside0 (Kd.S (Kd.slice 3 (Kd.int .i64)) 36 wr w.heap.size (fun _=>True) (.slice At rs.length ct) rs)∧Aside0 (Below w.heap.size w wr))
        case atStart=>exact ⟨0,rfl,⟨by omega⟩,⟨by simp⟩,HT,HB⟩
        case round=>
          clear HT HB;obtain ⟨j,rfl,HJ,HF,HT,HB⟩:=hrel;by_cases hj:j < rs.length
          · obtain ⟨k2,hk2⟩:∃ k2,gk=k2+1:=⟨gk - 1,by have:=HJ.out;omega⟩
            subst hk2;have hro:=HRO.out j hj;have hf:=HF.out;rw [sq_dropL rs j hj] at hf;obtain ⟨adr,Aj,cj,ea,hcr,hCj⟩:=sq_row (Kd.S_reads' HT.out).2.2 j hj;subst ea
            obtain ⟨y,hy⟩:∃ y,y=rs.getD j []:=⟨_,rfl⟩
            rw [← hy] at hf hcr hCj hro
            obtain ⟨ji,hji⟩:∃ ji:Int,(y.length:Int) - 1=ji:=⟨_,rfl⟩
            obtain ⟨adj,eaj,hcj⟩:=Kd.at_int hCj ji (by omega) (by omega);subst eaj;have hcell:=(HB.out.cell (World.block_lt_of_cell? w _ HCW.out)).trans HCW.out;have hjw:wrap64 ((y.length:Int) - 1)=ji:=by rw [← hji];unfold wrap64;omega
            have hjw2:IntKind.i64.wrap ((y.length:Int) - 1)=ji:=(i64_w _).trans hjw;have ej:=qA (show wrap64 ((j:Int)+1)=((j+1:Nat):Int) by have:=HUL.out;unfold wrap64;omega);have a0:=eq_true (show (0:Int)≤(j:Int) by omega);have a1:=eq_true hj;have a2:=eq_true (show (j:Int) < (rs.length:Int) by omega);have a3:=eq_true (show 0≤ji by omega);have a4:=eq_true (show ji < (y.length:Int) by omega);have a5:decide (j < rs.length)=true:=decide_eq_true hj;have a6:decide ((j:Int) < (rs.length:Int))=true:=decide_eq_true (by omega);have hv:lastGt x y=decide (x < rd y ji):=by unfold lastGt;rw [hji]
            generalize rd y ji=z at hcj hv;have HV:=qA hv;have HF2:=qA hf;have HJL:=qA hj;clear hv hf HF hro hy hji hj hCj
            go_upto_region 6 with (fail)
            refine start_ (n:=23) (S:=fun w'=>w'.cell? (adr.add j)=some (.slice (some adj) y.length cj)∧w'.cell? (adj.add ji.toNat)=some (.int .i64 z)∧w'.cell? (ad.add i)=some (.int .i64 x)) (ds:=[]) #[false,false,false,false,false,false,false,false,false,false,false,false,false,false,false,false,false,false,false,false,false,false,false] (by kernel_rfl) rfl rfl ⟨hcr,hcj,hcell⟩ (fun hHeld=>?_);refine with_tabW sq_tab6 sq_bits6 (fun HT_ HW_=>?_);clear hcr hcj hcell;by_cases hz:x < z
            · have dz:decide (x < z)=true:=decide_eq_true hz;have HZ:=qA (show findK x (y :: rs.drop (j+1))=findK x (rs.drop (j+1))+1 by simp only [findK];rw [if_pos (by rw [HV.out];exact dz)]);clear hz;refine pU 0 (some 13) rfl rfl ?_;refine pU 1 (some 14) rfl rfl ?_;refine pU 2 (some 15) rfl rfl ?_;refine pU 3 (some 16) rfl rfl ?_;refine pU 4 (some 17) rfl rfl ?_;refine pU 5 (some 18) rfl rfl ?_;refine pU 6 (some 19) rfl rfl ?_;refine pU 7 (some 20) rfl rfl ?_;refine pU 9 (some 22) rfl rfl ?_;refine pU 10 (some 23) rfl rfl ?_;refine pU 11 (some 24) rfl rfl ?_;refine pU 17 (some 30) rfl rfl ?_;refine pU 18 (some 31) rfl rfl ?_;refine pU 19 (some 32) rfl rfl ?_;refine tK3 8 (some 21) rfl rfl ?_ hHeld;refine tK3 12 (some 25) rfl rfl ?_ hHeld;refine pU 13 (some 26) rfl rfl ?_;refine pU 14 (some 27) rfl rfl ?_;refine pU 15 (some 28) rfl rfl ?_;refine tK3 16 (some 29) rfl rfl ?_ hHeld;refine tK3 20 (some 33) rfl rfl ?_ hHeld;refine pU 21 (some 34) rfl rfl ?_;refine pU 22 (some 35) rfl rfl ?_;refine done_ (done_of HT_.out (by kernel_rfl)) ?_
              try go_wp2
              go_roundg k2
              case measure=>omega
              case rel=>exact ⟨j+1,by first|rfl|rw [ej.out],⟨by have:=HJ.out;omega⟩,⟨by have:=HF2.out;rw [HZ.out] at this;omega⟩,⟨by (with_reducible repeat (first|apply Kd.S_alloc|apply Kd.S_drewN|apply Kd.S_drew));exact HT.out⟩,⟨(by repeat (first|exact HB.out|apply below_alloc|apply pw_below_drewN|apply below_drew1))⟩⟩
            · have dz:decide (x < z)=false:=decide_eq_false hz;have HZ:=qA (show findK x (y :: rs.drop (j+1))=0 by simp only [findK];rw [if_neg (by rw [HV.out,dz];exact Bool.false_ne_true)]);clear hz;refine pU 0 (some 13) rfl rfl ?_;refine pU 1 (some 14) rfl rfl ?_;refine pU 2 (some 15) rfl rfl ?_;refine pU 3 (some 16) rfl rfl ?_;refine pU 4 (some 17) rfl rfl ?_;refine pU 5 (some 18) rfl rfl ?_;refine pU 6 (some 19) rfl rfl ?_;refine pU 7 (some 20) rfl rfl ?_;refine pU 9 (some 22) rfl rfl ?_;refine pU 10 (some 23) rfl rfl ?_;refine pU 11 (some 24) rfl rfl ?_;refine pU 17 (some 30) rfl rfl ?_;refine pU 18 (some 31) rfl rfl ?_;refine pU 19 (some 32) rfl rfl ?_;refine tK3 8 (some 21) rfl rfl ?_ hHeld;refine tK3 12 (some 25) rfl rfl ?_ hHeld;refine pU 13 (some 26) rfl rfl ?_;refine pU 14 (some 27) rfl rfl ?_;refine pU 15 (some 28) rfl rfl ?_;refine tK3 16 (some 29) rfl rfl ?_ hHeld;refine tK3 20 (some 33) rfl rfl ?_ hHeld;refine pU 21 (some 34) rfl rfl ?_;refine pU 22 (some 35) rfl rfl ?_;refine done_ (done_of HT_.out (by kernel_rfl)) ?_
              try go_wp2
              go_meet
              case rel=>exact ⟨by have:=HF2.out;rw [HZ.out] at this;rw [← this];rfl,⟨by (with_reducible repeat (first|apply Kd.S_alloc|apply Kd.S_drewN|apply Kd.S_drew));exact HT.out⟩,⟨(by repeat (first|exact HB.out|apply below_alloc|apply pw_below_drewN|apply below_drew1))⟩⟩
          · obtain rfl:j=rs.length:=by have:=HJ.out;omega
            have d1:decide ((rs.length:Int) < (rs.length:Int))=false:=decide_eq_false (by omega);have d2:decide (rs.length < rs.length)=false:=decide_eq_false (by omega);have hf:=HF.out;rw [List.drop_length] at hf;have HF3:=qA (show findK x rs=rs.length by rw [← hf];rfl);clear hf
            go_wp2
            repeat (go_quiet (fail);try go_wp2)
            go_meet
            case rel=>exact ⟨by rw [HF3.out],⟨by (with_reducible repeat (first|apply Kd.S_alloc|apply Kd.S_drewN|apply Kd.S_drew));exact HT.out⟩,⟨(by repeat (first|exact HB.out|apply below_alloc|apply pw_below_drewN|apply below_drew1))⟩⟩
      case rest=>
      clear HT HB;obtain ⟨rfl,HT,HB⟩:=hcut
      obtain ⟨fk,hfk⟩:∃ fk,fk=findK x rs:=⟨_,rfl⟩
      have HFK:=qA hfk;rw [← hfk];rw [← hfk] at HFL
      obtain ⟨rs2,hrs2⟩:∃ rs2,rs2=sqN x rs:=⟨_,rfl⟩
      have HR2:=qA (show rs2=if fk=rs.length then rs++[[]] else rs by rw [hrs2,hfk];rfl);have HSN:=qA hrs2;clear hfk hrs2
      go_upto_if 41 with (fail)
      go_cut [3] from 38 to 45 (fun v3 wx=>Aside0 (Kd.S (Kd.slice 3 (Kd.int .i64)) 36 wx w.heap.size (fun _=>True) v3 rs2)∧Aside0 (Below w.heap.size w wx))
      case first=>
        by_cases hq:fk=rs.length
        · have dq:((fk:Int)==(rs.length:Int))=true:=beq_iff_eq.2 (by omega);have HR3:=qA (show rs2=rs++[[]] by rw [HR2.out,if_pos hq]);clear hq
          obtain ⟨ye,hye⟩:∃ ye:List Int,ye=[]:=⟨_,rfl⟩
          have HYE:=qA hye;have HR4:=qA (show rs2=rs++[ye] by rw [HR3.out,hye]);clear hye
          go_wp2_with (first
            |((with_reducible refine gate_dst (N:=43) rfl ?_);refine Kd.R_lit (Kd.int .i64) _ 3 ?hg (N:=43) ?hd (xs:=([]:List Int)) (inner:=[]) (ok:=fun _=>True) (okp:=fun _=>True) ?hr ?hp (fun _ hk=>hk) trivial (Below.refl _ _) (Nat.le_refl _) (by simp) ?_;(case hd=>rfl);(case hg=>rfl);(case hr=>first|(go_simp;done)|(go_simp;rfl));(case hp=>exact (Reps.none _ _));intro v160 w15 ho16 hb hg_ hnew_;(rw [← HYE.out] at ho16);have n0_:=qA (Kd.S_elder' (by (with_reducible repeat (first|apply Kd.S_alloc|apply Kd.S_drewN|apply Kd.S_drew));exact HT.out) (Kd.R_base ho16) hb);have n1_:=qA (Kd.R_lower ho16 (below_size (by repeat (first|exact HB.out|apply below_alloc|apply pw_below_drewN|apply below_drew1))));have n2_:=qA (below_step (by repeat (first|exact HB.out|apply below_alloc|apply pw_below_drewN|apply below_drew1)) hb);clear HT HB;have HT:=n0_;have HE:=n1_;have HB:=n2_;clear n0_ n1_ n2_ hb ho16 hg_ hnew_;obtain ⟨Ao18,co18,eo18⟩:=Kd.R_slice HE.out;subst eo18)
            |((with_reducible refine gate_builtin (b:=.append) (xs:= #[.tmp 42,.tmp 44]) rfl ?_);at_builtin;refine Kd.S_append (Kd.slice 3 (Kd.int .i64)) (w0:=w) w.heap.size rfl (.tmp 42) (.tmp 44) 32 36 (.slice none 0 0) 24 rfl Tryz.underlying32 info36 rfl (by decide) (by omega) (.slice At rs.length ct) rs ye [.slice Ao18 ye.length co18] (fun _=>True) (fun k_=>some k_=(.slice Ao18 ye.length co18:Value).ownBlock) rfl rfl ?aP ?aK ?aF ?aO ?aB ?aS ?aL ?_;(case aK=>exact (fun k_ hk_=>(Kd.R_apart' HE.out (Kd.S_typed HT.out) (by decide)).1 k_ hk_.symm));(case aP=>exact Kd.M_row (Kd.R_mono (Kd.R_tight rfl (Kd.R_apart' HE.out (Kd.S_typed HT.out) (by decide))) (fun _ h_=>h_)));(case aB=>exact (by repeat (first|exact HB.out|apply below_alloc|apply pw_below_drewN|apply below_drew1)));(case aF=>exact (fun _ _=>trivial));(case aO=>exact (by (with_reducible repeat (first|apply Kd.S_alloc|apply Kd.S_drewN|apply Kd.S_drew));exact Kd.S_mono HT.out (fun k_ hk=>⟨trivial,hk.2⟩)));(case aS=>exact (below_size (by repeat (first|exact HB.out|apply below_alloc|apply pw_below_drewN|apply below_drew1))));(case aL=>have:=HUL.out;omega);intro v163 w17 ho hb hg hat;rw [← HR4.out] at ho;clear HB HT HE;have HB:=qA hb;have HT:=qA ho;clear ho hb hg hat))
          go_meet
          case rel=>exact ⟨HT,HB⟩
        · have dq:((fk:Int)==(rs.length:Int))=false:=beq_eq_false_iff_ne.2 (by omega);have HR3:=qA (show rs2=rs by rw [HR2.out,if_neg hq]);clear hq
          go_wp2
          go_meet
          case rel=>exact ⟨⟨by rw [HR3.out];(with_reducible repeat (first|apply Kd.S_alloc|apply Kd.S_drewN|apply Kd.S_drew));exact HT.out⟩,⟨(by repeat (first|exact HB.out|apply below_alloc|apply pw_below_drewN|apply below_drew1))⟩⟩
      case rest=>
        clear HT HB;obtain ⟨HT,HB⟩:=hcut
        have hlen:fk < rs2.length:=by
          rw [HR2.out];have:=HFL.out
          split
          · simp;omega
          · omega
        have hpos:0 < rs2.length:=by omega
        obtain ⟨kq,hkq⟩:∃ kq:Int,(fk:Int)=kq:=⟨_,rfl⟩
        have pj:=eq_true (show 0≤kq by omega);have qj:=eq_true (show kq < (rs2.length:Int) by omega);have hj1:decide (0≤kq)=true:=decide_eq_true (by omega);have hj2:decide (kq < (rs2.length:Int))=true:=decide_eq_true (by omega)
        have HEN:=qA (show (rs2.getD kq.toNat []).length≤1000 by
          rw [show kq.toNat=fk by omega,HR2.out];have:=HFL.out
          split
          · next h=>rw [h];simp
          · next h=>have:=HRO.out fk (by omega);omega)
        have HKN:=qA (show kq.toNat=fk by omega);rw [hkq];obtain ⟨At2,ct2,et2⟩:=Kd.S_slice HT.out;subst et2;clear hlen hkq
        go_upto_region 10 with (fail)
        have n0_:=qA (Kd.S_drew HT.out);have n1_:=qA (below_drew1 HB.out);clear HT HB;have HT:=n0_;have HB:=n1_;clear n0_ n1_;obtain ⟨go,co,eo,gb,gl,cl,hg0⟩:=Kd.S_form HT.out hpos;cases eo;have GB:=qA gb;clear gb gl hg0 cl hpos;obtain ⟨oki,ce,hcl,hM,hcc,hfr,hoki,hH⟩:=Kd.S_elem HT.out [] kq (of_eq_true pj) (of_eq_true qj);obtain ⟨ve,rfl,ge⟩:=hM;obtain ⟨Ae,cap,rfl⟩:=Kd.R_slice ge;have hx0:=hcc 0 _ rfl;rw [Nat.add_zero,show (Kd.slice 3 (Kd.int .i64)).sz=1 from rfl,Nat.mul_one] at hx0
        obtain ⟨el,hel⟩:∃ el,el=rs2.getD kq.toNat []:=⟨_,rfl⟩
        rw [← hel] at ge hx0 hH hcc;have HEL:=qA hel;have HLE:=qA (show el.length≤1000 by rw [hel];exact HEN.out);have UU:=qA ge;have HH:=qA hH;have HN:=qA (Kd.S_reads' HT.out).1
        obtain ⟨nw,hnw⟩:∃ nw,nw=el++[x]:=⟨_,rfl⟩
        have HNW:=qA hnw;have HOKI:=qA hoki;clear ge hH hoki hcc hfr hcl hel hnw;have hcell2:wc.drew.cell? (ad.add i)=some (.int .i64 x):=(HB.out.cell (World.block_lt_of_cell? w _ HCW.out)).trans HCW.out;have HCA:=qA (show ∀ W:World,Below w.heap.size w W→W.cell? (ad.add i)=some (.int .i64 x) from fun W hb_=>(hb_.cell (World.block_lt_of_cell? w _ HCW.out)).trans HCW.out);refine start_ (n:=14) (S:=fun w'=>w'.cell? ⟨go,(kq).toNat,none⟩=some (.slice Ae el.length cap)∧w'.cell? (ad.add i)=some (.int .i64 x)) (ds:=[13]) #[false,false,false,false,false,false,false,false,false,false,false,false,false,false] (by kernel_rfl) rfl rfl ⟨hx0,hcell2⟩ (fun hHeld=>?_);refine with_tabW sq_tab sq_bits (fun HT_ HW_=>?_);generalize wc.drew=w9 at HT HB HH UU hx0 hcell2 hHeld ⊢;refine pU 0 (some 46) rfl rfl ?_;refine pU 1 (some 47) rfl rfl ?_;refine pU 2 (some 48) rfl rfl ?_;refine pU 3 (some 49) rfl rfl ?_;refine pU 4 (some 50) rfl rfl ?_;refine pU 6 (some 52) rfl rfl ?_;refine pU 7 (some 53) rfl rfl ?_;refine pU 8 (some 54) rfl rfl ?_;refine tK2 5 (some 51) rfl rfl ?_ hHeld;refine tK2 9 (some 55) rfl rfl ?_ hHeld;refine one_ (i:=10) (N:=some 56) #[true,true,true,true,true,true,true,true,true,true,true,false,false,false] rfl rfl (one_of HT_.out (by kernel_rfl)) (by decide) (fun K hK=>?_);refine value_ (w1:=?_) (v:=?_) (by rfl) rfl ?_ ?_;rotate_left 2
        · go_simp
          constructor
          · rfl
          · rfl
        refine hK.out _ _ ⟨(World.cell?_alloc_lt _ _ _ (World.block_lt_of_cell? _ _ (hHeld.1))).trans (hHeld.1),(World.cell?_alloc_lt _ _ _ (World.block_lt_of_cell? _ _ (hHeld.2))).trans (hHeld.2)⟩ (fun hHeld=>?_);clear hK K;refine norm_ (a':=?_) ?_ ?_;rotate_left
        · show Act.put _ (some 56) _=_
          simp only [Act.put,List.setIfInBounds_toArray,List.set_cons_zero,List.set_cons_succ,i64_w,i32_w];rfl
        refine one_ (i:=11) (N:=some 57) #[true,true,true,true,true,true,true,true,true,true,true,true,false,false] rfl rfl (one_of HT_.out (by kernel_rfl)) (by decide) (fun K hK=>?_);refine Kd.R_append_step (Kd.int .i64) (w0:=w) w.heap.size (by rfl) (.tmp 51) (.tmp 56) 36 3 (.int .i64 0) 8 rfl Tryz.underlying36 info3 rfl (by decide) (by omega) (.slice Ae el.length cap) el x [.int .i64 x] (fun k_=>oki k_∨((fun _=>True)) k_∧w9.heap.size≤k_) (fun _=>False) rfl rfl ?aP (fun _ hk=>hk.elim) ?aF ?aO ?aB ?aS ?aL ?_
        (case aP=>exact rfl)
        (case aB=>exact (by repeat (first|exact HB.out|apply below_alloc|apply pw_below_drewN|apply below_drew1)))
        (case aF=>exact (fun k_ hk=>.inr ⟨trivial,hk⟩))
        (case aO=>exact (by (with_reducible repeat (first|apply Kd.R_alloc|apply Kd.R_drewN|apply Kd.R_drew));exact Kd.R_mono UU.out (fun _ hk=>.inl hk)))
        (case aS=>exact (below_size (by repeat (first|exact HB.out|apply below_alloc|apply pw_below_drewN|apply below_drew1))))
        (case aL=>have:=HLE.out;omega)
        intro v171 w21 ho hb hg hat;have HS0_:=cell_grown hg (cell_unalloc hHeld.1 (show go < w9.heap.size from Kd.S_lt HT.out _ rfl)) (fun e_=>(HOKI.out _ (UU.out.1 _ e_.symm)).2 rfl);have HS1_:=HCA.out w21 hb;rw [← HNW.out] at ho;have n0_:=qA hb;have n1_:=qA (Kd.H_grown (Kd.H_widen (by repeat (first|exact HH.out|refine Kd.H_alloc ?_ _|refine Kd.H_drewN ?_ _|refine Kd.H_drew ?_))) hg (fun k_ e_=>.inl (UU.out.1 k_ e_)));have n2_:=qA ho;clear HB HH HT UU;have HB:=n0_;have HH:=n1_;have HU2:=n2_;clear n0_ n1_ n2_ ho hb hg hat;obtain ⟨Ao,cn,eo⟩:=Kd.R_slice HU2.out;subst eo;obtain ⟨_,_,hraw,_,_,hcc,_⟩:=Kd.H_raw HH.out (of_eq_true pj) (of_eq_true qj);obtain ⟨_,hfr⟩:=Kd.H_at HH.out (of_eq_true pj) (of_eq_true qj);have hx22:=hcc 0 _ rfl;have hf22:=hfr 0
        (try simp only [Nat.add_zero] at hx22 hf22)
        (try rw [show (Kd.slice 3 (Kd.int .i64)).sz=1 from rfl,Nat.mul_one] at hx22)
        (try rw [show (Kd.slice 3 (Kd.int .i64)).sz=1 from rfl,Nat.mul_one] at hf22)
        have hp:=Kd.S_seg0 HH.out (of_eq_true pj) (of_eq_true qj) (seg:=[.slice Ao nw.length cn]) (j:=0) (show 1≤1 from by decide) (x':=nw) (Kd.M_row HU2.out) (fun _ hk=>hk)
        (try simp only [show (Kd.slice 3 (Kd.int .i64)).sz=1 from rfl,Nat.mul_one,Nat.add_zero] at hp)
        have HP:=qA hp.1;clear hcc hfr hp hraw;refine hK.out _ _ ⟨HS0_,HS1_⟩ (fun hHeld=>?_);clear hK K;refine norm_ (a':=?_) ?_ ?_;rotate_left
        · show Act.put _ (some 57) _=_
          simp only [Act.put,List.setIfInBounds_toArray,List.set_cons_zero,List.set_cons_succ,i64_w,i32_w];rfl
        refine pU 12 (some 58) rfl rfl ?_;refine last_ (i:=13) (N:=none) #[true,true,true,true,true,true,true,true,true,true,true,true,true,true] rfl rfl (one_of HT_.out (by kernel_rfl)) (by decide) (fun K hK=>?_);refine skip_ (w1:=?_) (by rfl) rfl ?_ ?_;rotate_left
        · go_simp;rfl
        refine hK.out _ _ ?_;clear hK K;refine done_ (done_of HT_.out (by kernel_rfl)) ?_
        go_wp2
        go_roundg k1
        case measure=>omega
        case rel=>
          refine ⟨i+1,rs2.set kq.toNat nw,by first|rfl|rw [E1.out],⟨by have:=HK.out;omega⟩,⟨?_⟩,HP,⟨by repeat (first|exact HB.out|apply below_alloc|apply pw_below_drewN|apply below_drew1|refine below_set ?_ GB.out)⟩⟩
          have e_:sqS x rs=rs2.set kq.toNat nw:=by
            rw [HNW.out,HEL.out,HKN.out];unfold sqS;rw [← HSN.out,← HFK.out]
          rw [← e_];exact HS2.out
    · obtain rfl:i=l0.length:=by have:=HK.out;omega
      have d1:decide ((l0.length:Int) < (l0.length:Int))=false:=decide_eq_false (by omega);have hs:=HS.out;rw [List.drop_length] at hs;obtain rfl:=Option.some.inj hs;clear hs;obtain ⟨At,ct,et⟩:=Kd.S_slice HT.out;subst et
      go_wp2
      go_ret;exact ⟨_,rfl,HT.out,HB.out⟩

end Go.Proofs.YtaoecbpfocillaaGreat.Xdz
