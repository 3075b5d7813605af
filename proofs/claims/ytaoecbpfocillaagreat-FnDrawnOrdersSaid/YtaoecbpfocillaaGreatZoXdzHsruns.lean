/- spec.l5Runs by hand: it tells what impl.runs tells. -/
import Derived.Test.YtaoecbpfocillaaGreatZoXdz0
import Derived.Test.YtaoecbpfocillaaGreatZoXdzHruns
import Derived.OneCell
import Derived.Lib.SliceRun
namespace Go.Proofs.YtaoecbpfocillaaGreat.Xdz
open Go.RowKit Go.Proofs.YtaoecbpfocillaaGreatW.PrintWords Go.Proofs.YtaoecbpfocillaaGreatW.PrintLast Go.Proofs.YtaoecbpfocillaaGreatW.PrintMore
attribute [local go_sem] max2_int min2_int max_two min_two max_three min_three max_four min_four
set_option linter.unusedVariables false
set_option linter.unusedSimpArgs false
section
variable {P:Program} {md:Region.Mode} {ops:Array Oper} {Q:Exit→Act→World→Prop} {S:World→Prop} {ds:List Nat}
theorem pU (i:Nat) (N:Option Tmp) {l':Array Bool} {oi:Oper} {v:Value} {fuel:Nat} {l:Array Bool} {a a':Act} {w:World} (hi:ops[i]? =some oi) (hN:oi.dst=N)
    (h:wpAnyLast P md ops Q S ds fuel l' a' w) (hl:l.setIfInBounds i true=l':=by simp only [List.setIfInBounds_toArray,List.set_cons_zero,List.set_cons_succ];rfl) (hc:anyB md ops l l' i=true:=by exact any_of HT_.out (by kernel_rfl)) (hQ:∀ c a w,Q (.panic c) (a.put oi.dst v) w→Q (.panic c) a w:=by exact fun _ _ _ h=>h)
    (hy:Yields P ops oi v a:=by exact Or.inl ⟨by rfl,by intro w';go_simp;with_reducible rfl⟩) (ha:a.put N v=a':=by simp only [Act.put,List.setIfInBounds_toArray,List.set_cons_zero,List.set_cons_succ,i64_w,i32_w];rfl):wpAnyLast P md ops Q S ds (fuel+1) l a w:=pure_ l' hi hN hc hQ hy ha h
theorem pK (i:Nat) (N:Option Tmp) {l':Array Bool} {oi:Oper} {v:Value} {fuel:Nat} {l:Array Bool} {a a':Act} {w:World} (hi:ops[i]? =some oi) (hN:oi.dst=N)
    (h:wpAnyLast P md ops Q S ds fuel l' a' w) (hl:l.setIfInBounds i true=l':=by simp only [List.setIfInBounds_toArray,List.set_cons_zero,List.set_cons_succ];rfl) (hc:anyB md ops l l' i=true:=by kernel_rfl) (hQ:∀ c a w,Q (.panic c) (a.put oi.dst v) w→Q (.panic c) a w:=by exact fun _ _ _ h=>h)
    (hy:Yields P ops oi v a:=by exact Or.inl ⟨by rfl,by intro w';go_simp;with_reducible rfl⟩) (ha:a.put N v=a':=by simp only [Act.put,List.setIfInBounds_toArray,List.set_cons_zero,List.set_cons_succ,i64_w,i32_w];rfl):wpAnyLast P md ops Q S ds (fuel+1) l a w:=pure_ l' hi hN hc hQ hy ha h
theorem pS (i:Nat) (N:Option Tmp) {l':Array Bool} {oi:Oper} {v:Value} {fuel:Nat} {l:Array Bool} {a a':Act} {w:World} (hi:ops[i]? =some oi) (hN:oi.dst=N)
    (h:wpAnyLast P md ops Q S ds fuel l' a' w) (hl:l.setIfInBounds i true=l':=by simp only [List.setIfInBounds_toArray,List.set_cons_zero,List.set_cons_succ];rfl) (hc:anyB md ops l l' i=true:=by exact any_of HT_.out (by kernel_rfl)) (hQ:∀ c a w,Q (.panic c) (a.put oi.dst v) w→Q (.panic c) a w:=by exact fun _ _ _ h=>h)
    (hy:Yields P ops oi v a:=by exact Or.inr ⟨by rfl,rfl⟩) (ha:a.put N v=a':=by simp only [Act.put,List.setIfInBounds_toArray,List.set_cons_zero,List.set_cons_succ,i64_w,i32_w];rfl):wpAnyLast P md ops Q S ds (fuel+1) l a w:=pure_ l' hi hN hc hQ hy ha h
theorem tK1 (i:Nat) (N:Option Tmp) {l':Array Bool} {oi:Oper} {v:Value} {fuel:Nat} {l:Array Bool} {a a':Act} {w:World} (hi:ops[i]? =some oi) (hN:oi.dst=N)
    (h:wpAnyLast P md ops Q S ds fuel l' a' w) (hS:S w) (hl:l.setIfInBounds i true=l':=by simp only [List.setIfInBounds_toArray,List.set_cons_zero,List.set_cons_succ];rfl) (hc:takeB md ops ds l l' i=true:=by exact take_ofW HT_.out HW_.out (by kernel_rfl)) (hQ:∀ c a w,Q (.panic c) (a.put oi.dst v) w→Q (.panic c) a w:=by exact fun _ _ _ h=>h)
    (hy:YieldsIf P ops S oi v a:=by exact Or.inl ⟨by rfl,by intro w' s0;go_simp;with_reducible rfl⟩) (ha:a.put N v=a':=by simp only [Act.put,List.setIfInBounds_toArray,List.set_cons_zero,List.set_cons_succ,i64_w,i32_w];rfl):wpAnyLast P md ops Q S ds (fuel+1) l a w:=take_ l' hi hN hc hQ hy hS ha h
theorem tK2 (i:Nat) (N:Option Tmp) {l':Array Bool} {oi:Oper} {v:Value} {fuel:Nat} {l:Array Bool} {a a':Act} {w:World} (hi:ops[i]? =some oi) (hN:oi.dst=N)
    (h:wpAnyLast P md ops Q S ds fuel l' a' w) (hS:S w) (hl:l.setIfInBounds i true=l':=by simp only [List.setIfInBounds_toArray,List.set_cons_zero,List.set_cons_succ];rfl) (hc:takeB md ops ds l l' i=true:=by exact take_ofW HT_.out HW_.out (by kernel_rfl)) (hQ:∀ c a w,Q (.panic c) (a.put oi.dst v) w→Q (.panic c) a w:=by exact fun _ _ _ h=>h)
    (hy:YieldsIf P ops S oi v a:=by exact Or.inl ⟨by rfl,by rintro w' ⟨s0,s1⟩;go_simp;with_reducible rfl⟩) (ha:a.put N v=a':=by simp only [Act.put,List.setIfInBounds_toArray,List.set_cons_zero,List.set_cons_succ,i64_w,i32_w];rfl):wpAnyLast P md ops Q S ds (fuel+1) l a w:=take_ l' hi hN hc hQ hy hS ha h
theorem tK3 (i:Nat) (N:Option Tmp) {l':Array Bool} {oi:Oper} {v:Value} {fuel:Nat} {l:Array Bool} {a a':Act} {w:World} (hi:ops[i]? =some oi) (hN:oi.dst=N)
    (h:wpAnyLast P md ops Q S ds fuel l' a' w) (hS:S w) (hl:l.setIfInBounds i true=l':=by simp only [List.setIfInBounds_toArray,List.set_cons_zero,List.set_cons_succ];rfl) (hc:takeB md ops ds l l' i=true:=by exact take_ofW HT_.out HW_.out (by kernel_rfl)) (hQ:∀ c a w,Q (.panic c) (a.put oi.dst v) w→Q (.panic c) a w:=by exact fun _ _ _ h=>h)
    (hy:YieldsIf P ops S oi v a:=by exact Or.inl ⟨by rfl,by rintro w' ⟨s0,s1,s2⟩;go_simp;with_reducible rfl⟩) (ha:a.put N v=a':=by simp only [Act.put,List.setIfInBounds_toArray,List.set_cons_zero,List.set_cons_succ,i64_w,i32_w];rfl):wpAnyLast P md ops Q S ds (fuel+1) l a w:=take_ l' hi hN hc hQ hy hS ha h
theorem tK4 (i:Nat) (N:Option Tmp) {l':Array Bool} {oi:Oper} {v:Value} {fuel:Nat} {l:Array Bool} {a a':Act} {w:World} (hi:ops[i]? =some oi) (hN:oi.dst=N)
    (h:wpAnyLast P md ops Q S ds fuel l' a' w) (hS:S w) (hl:l.setIfInBounds i true=l':=by simp only [List.setIfInBounds_toArray,List.set_cons_zero,List.set_cons_succ];rfl) (hc:takeB md ops ds l l' i=true:=by exact take_ofW HT_.out HW_.out (by kernel_rfl)) (hQ:∀ c a w,Q (.panic c) (a.put oi.dst v) w→Q (.panic c) a w:=by exact fun _ _ _ h=>h)
    (hy:YieldsIf P ops S oi v a:=by exact Or.inl ⟨by rfl,by rintro w' ⟨s0,s1,s2,s3⟩;go_simp;with_reducible rfl⟩) (ha:a.put N v=a':=by simp only [Act.put,List.setIfInBounds_toArray,List.set_cons_zero,List.set_cons_succ,i64_w,i32_w];rfl):wpAnyLast P md ops Q S ds (fuel+1) l a w:=take_ l' hi hN hc hQ hy hS ha h
end
def spec_l5Runs.f (_:Nat) (l:List Int):Option (List (List Int)):=impl_runs.f l
theorem spec_l5Runs.mono:∀ a0 k,LeO (spec_l5Runs.f k a0) (spec_l5Runs.f (k+1) a0):=fun _ _=>LeO.refl _
def sr_T:Bool × List (List Nat × List Nat):=(true,[([],[]),([],[]),([],[]),([],[]),([2,3],[2,3]),([4],[4]),([],[]),([],[]),([6,7],[6,7]),([8],[8]),([9],[9]),([5,10],[5,10]),([0,1,0,1,2,3,4,5,6,7,8,9,10,11],[0,1]),([12,11,11,0,1,2,3,4,5,6,7,8,9,10,11],[11,12])])
def sr_B:List Nat:=[0,0,0,0,12,28,0,0,192,448,960,2044,4095,8191]
theorem sr_tab:rtab .any (opsOf Tryz.f55 8)=sr_T:=by kernel_rfl
theorem sr_bits:waitsOk sr_T.2 sr_B=true:=by kernel_rfl
def sr_T5:Bool × List (List Nat × List Nat):=(true,[([],[]),([0],[0]),([1],[1]),([2],[2]),([2],[2]),([3,4,2],[2,3,4]),([5,2],[2,5]),([2],[2]),([2],[2]),([8,2],[2,8]),([7,9,2],[2,7,9]),([10,2],[2,10]),([6,11,2],[2,6,11]),([2,12],[2,12])])
def sr_B5:List Nat:=[0,1,3,7,7,31,63,7,7,263,903,1927,4095,8191]
theorem sr_tab5:rtab .any (opsOf Tryz.f55 5)=sr_T5:=by kernel_rfl
theorem sr_bits5:waitsOk sr_T5.2 sr_B5=true:=by kernel_rfl
set_option maxHeartbeats 16000000 in
set_option maxRecDepth 100000 in
theorem spec_l5Runs.calls (k:Nat) (A0:Option Addr) (c0:Nat) (l0:List Int) (r:List (List Int)) (w:World) (hr0:Kd.C (Kd.int .i64) w A0 l0.length l0) (hc0:l0.length≤c0) (h:spec_l5Runs.f k l0=some r):
    Calls Tryz.prog 55 #[.slice A0 l0.length c0] w fun e w'=>∃ v0_:Value,e=.returned (v0_)∧Kd.S (Kd.slice 3 (Kd.int .i64)) 36 w' w.heap.size (fun _=>True) v0_ r∧Below w.heap.size w w':=by
  unfold spec_l5Runs.f impl_runs.f at h;by_cases hll:l0.length≤1000
  case neg=>rw [if_neg hll] at h;cases h
  rw [if_pos hll] at h;obtain rfl:=Option.some.inj h;have HR0:=qA hr0;have HC0:=qA hc0;have HLL:=qA hll;have HB:=qA (Below.refl w.heap.size w);clear hr0 hc0 hll h;go_enter Tryz.func55,Tryz.ntmps55
  go_wp2_with ((with_reducible refine gate_dst (N:=6) rfl ?_);refine Kd.S_lit (Kd.slice 3 (Kd.int .i64)) (w0:=w) w.heap.size 36 ?hg (N:=6) ?hd (xs:=([]:List (List Int))) (inner:=[]) (ok:=fun _=>True) (okp:=fun _=>True) ?hr ?hp (fun _ hk=>hk) trivial (HB.out) (Nat.le_refl _) (by simp) ?_;(case hd=>rfl);(case hg=>rfl);(case hr=>first|(go_simp;done)|(go_simp;rfl));(case hp=>exact (Reps.none _ _));intro v9 w9 ho9 hb hg_ hnew_;have HT:=qA ho9;clear HB;have HB:=qA hb;clear hg_ hnew_ hb ho9)
  go_loopg [3,4] l0.length (fun kq v3 v4 wr=>∃ (i:Nat),v4=.int .i64 (i:Int)∧Aside0 (i+kq=l0.length)∧Aside0 (Kd.S (Kd.slice 3 (Kd.int .i64)) 36 wr w.heap.size (fun _=>True) v3 (runsU l0 i))∧Aside0 (Below w.heap.size w wr))
  case atStart=>exact ⟨0,rfl,⟨by omega⟩,HT,HB⟩
  case round=>
    clear HT HB;obtain ⟨i,rfl,HK,HT,HB⟩:=hrel;by_cases hi:i < l0.length
    · obtain ⟨k1,hk1⟩:∃ k1,gk=k1+1:=⟨gk - 1,by have:=HK.out;omega⟩
      subst hk1;have hi0:decide (0≤(i:Int))=true:=decide_eq_true (by omega);have hi1:decide (i < l0.length)=true:=decide_eq_true hi;have pi0:=eq_true (show (0:Int)≤(i:Int) by omega);obtain ⟨ad,ead,hcw⟩:=Kd.at_int HR0.out (i:Int) (by omega) (by omega);subst ead;rw [Int.toNat_natCast] at hcw;have hcell:=(HB.out.cell (World.block_lt_of_cell? w _ hcw)).trans hcw;have E1:=qA (show wrap64 ((i:Int)+1)=((i+1:Nat):Int) by have:=HLL.out;unfold wrap64;omega);have HUL:=qA (runsU_len l0 i);have HNE:=qA (show runsU l0 (i+1)=runStep (runsU l0 i) (rd l0 (i:Int)) (runNew l0 i) from rfl);have HEE:=qA (fun j:Nat=>runsU_elem l0 i j);have HPO:=qA (fun h:0 < i=>runsU_pos l0 i h)
      obtain ⟨b,hb⟩:∃ b,b=runNew l0 i:=⟨_,rfl⟩
      obtain ⟨rs,hrs⟩:∃ rs,rs=runsU l0 i:=⟨_,rfl⟩
      have HBN:=qA hb
      have hcl2:i≠0→wr.cell? (ad.add (i - 1))=some (.int .i64 (rd l0 ((i:Int) - 1))):=fun h0=>by
        obtain ⟨ad2,e2,hc2⟩:=Kd.at_int (Kd.C_below HR0.out HB.out) ((i:Int) - 1) (by omega) (by omega);obtain rfl:=Option.some.inj e2
        rwa [show ((i:Int) - 1).toNat=i - 1 by omega] at hc2
      have HC2:=qA hcl2;rw [← hrs] at HT HUL HNE HEE HPO;rw [← hb] at HNE HEE HPO
      obtain ⟨rs2,hrs2⟩:∃ rs2,rs2=if b=true then rs++[[]] else rs:=⟨_,rfl⟩
      rw [← hrs2] at HEE HPO;have HR2:=qA hrs2;have HCW:=qA hcw;have HIL:=qA hi;clear hb hrs hrs2 hcl2 hcw hi;generalize hx:rd l0 (i:Int)=x at hcell HCW HNE;have HX:=qA hx;clear hx;obtain ⟨At,ct,et⟩:=Kd.S_slice HT.out;subst et
      go_upto_region 5 with (fail)
      go_cut [26] from 13 to 25 (fun v26 wx=>∃ n:Nat,v26=.bool b∧wx=wr.drewN n)
      case first=>
        by_cases hz:i=0
        · subst hz;have hb:b=true:=by rw [HBN.out];simp [runNew]
          have ez:(((0:Nat):Int)==0)=true:=by decide
          have HBV:=qA hb;clear hb
          go_wp2
          repeat (go_quiet (fail);try go_wp2)
          go_meet
          case rel=>exact ⟨_,by rw [HBV.out],rfl⟩
        · have ez:((i:Int)==0)=false:=beq_eq_false_iff_ne.2 (by omega);have hc2:=HC2.out hz;have hbv:b=decide (x < rd l0 ((i:Int) - 1)):=by rw [HBN.out];unfold runNew;rw [HX.out];simp [hz]
          obtain ⟨ji,hji⟩:∃ ji:Int,(i:Int) - 1=ji:=⟨_,rfl⟩
          have hjw:wrap64 ((i:Int) - 1)=ji:=by have:=HLL.out;have:=HIL.out;rw [← hji];unfold wrap64;omega
          have hjw2:IntKind.i64.wrap ((i:Int) - 1)=ji:=(i64_w _).trans hjw;have pj2:=eq_true (show 0≤ji by omega);have qj2:=eq_true (show ji < (l0.length:Int) by have:=HIL.out;omega);have qi2:=eq_true (show (i:Int) < (l0.length:Int) by have:=HIL.out;omega);rw [show i - 1=ji.toNat by omega,hji] at hc2;rw [hji] at hbv;generalize rd l0 ji=y at hc2 hbv;have HBV:=qA hbv;clear hbv hz hji;refine start_ (n:=14) (S:=fun w'=>w'.cell? (ad.add i)=some (.int .i64 x)∧w'.cell? (ad.add ji.toNat)=some (.int .i64 y)) (ds:=[]) #[false,false,false,false,false,false,false,false,false,false,false,false,false,false] (by kernel_rfl) rfl rfl ⟨hcell,hc2⟩ (fun hHeld=>?_);refine with_tabW sr_tab5 sr_bits5 (fun HT_ HW_=>?_);refine pU 0 (some 13) rfl rfl ?_;refine pU 1 (some 14) rfl rfl ?_;refine pU 2 (some 15) rfl rfl ?_;refine pU 3 (some 16) rfl rfl ?_;refine pU 4 (some 17) rfl rfl ?_;refine pU 5 (some 18) rfl rfl ?_;refine pU 7 (some 20) rfl rfl ?_;refine pU 8 (some 21) rfl rfl ?_;refine pU 9 (some 22) rfl rfl ?_;refine pU 10 (some 23) rfl rfl ?_;refine tK2 6 (some 19) rfl rfl ?_ hHeld;refine tK2 11 (some 24) rfl rfl ?_ hHeld;refine pU 12 (some 25) rfl rfl ?_;refine pU 13 (some 26) rfl rfl ?_;refine done_ (done_of HT_.out (by kernel_rfl)) ?_
          try go_wp2
          go_meet
          case rel=>exact ⟨1,by rw [HBV.out],rfl⟩
      case rest=>
      obtain ⟨nq,rfl,rfl⟩:=hcut
      go_upto_if 26 with (fail)
      go_cut [3] from 27 to 30 (fun v3 wx=>Aside0 (Kd.S (Kd.slice 3 (Kd.int .i64)) 36 wx w.heap.size (fun _=>True) v3 rs2)∧Aside0 (Below w.heap.size w wx))
      case first=>
        cases b with
        |true=>
          have HR3:=qA (show rs2=rs++[[]] by rw [HR2.out];rfl)
          obtain ⟨ye,hye⟩:∃ ye:List Int,ye=[]:=⟨_,rfl⟩
          have HYE:=qA hye;have HR4:=qA (show rs2=rs++[ye] by rw [HR3.out,hye]);clear hye
          go_wp2_with (first
            |((with_reducible refine gate_dst (N:=28) rfl ?_);refine Kd.R_lit (Kd.int .i64) _ 3 ?hg (N:=28) ?hd (xs:=([]:List Int)) (inner:=[]) (ok:=fun _=>True) (okp:=fun _=>True) ?hr ?hp (fun _ hk=>hk) trivial (Below.refl _ _) (Nat.le_refl _) (by simp) ?_;(case hd=>rfl);(case hg=>rfl);(case hr=>first|(go_simp;done)|(go_simp;rfl));(case hp=>exact (Reps.none _ _));intro v160 w15 ho16 hb hg_ hnew_;(rw [← HYE.out] at ho16);have n0_:=qA (Kd.S_elder' (by (with_reducible repeat (first|apply Kd.S_alloc|apply Kd.S_drewN|apply Kd.S_drew));exact HT.out) (Kd.R_base ho16) hb);have n1_:=qA (Kd.R_lower ho16 (below_size (by repeat (first|exact HB.out|apply below_alloc|apply pw_below_drewN|apply below_drew1))));have n2_:=qA (below_step (by repeat (first|exact HB.out|apply below_alloc|apply pw_below_drewN|apply below_drew1)) hb);clear HT HB;have HT:=n0_;have HE:=n1_;have HB:=n2_;clear n0_ n1_ n2_ hb ho16 hg_ hnew_;obtain ⟨Ao18,co18,eo18⟩:=Kd.R_slice HE.out;subst eo18)
            |((with_reducible refine gate_builtin (b:=.append) (xs:= #[.tmp 27,.tmp 29]) rfl ?_);at_builtin;refine Kd.S_append (Kd.slice 3 (Kd.int .i64)) (w0:=w) w.heap.size rfl (.tmp 27) (.tmp 29) 32 36 (.slice none 0 0) 24 rfl Tryz.underlying32 info36 rfl (by decide) (by omega) (.slice At rs.length ct) rs ye [.slice Ao18 ye.length co18] (fun _=>True) (fun k_=>some k_=(.slice Ao18 ye.length co18:Value).ownBlock) rfl rfl ?aP ?aK ?aF ?aO ?aB ?aS ?aL ?_;(case aK=>exact (fun k_ hk_=>(Kd.R_apart' HE.out (Kd.S_typed HT.out) (by decide)).1 k_ hk_.symm));(case aP=>exact Kd.M_row (Kd.R_mono (Kd.R_tight rfl (Kd.R_apart' HE.out (Kd.S_typed HT.out) (by decide))) (fun _ h_=>h_)));(case aB=>exact (by repeat (first|exact HB.out|apply below_alloc|apply pw_below_drewN|apply below_drew1)));(case aF=>exact (fun _ _=>trivial));(case aO=>exact (by (with_reducible repeat (first|apply Kd.S_alloc|apply Kd.S_drewN|apply Kd.S_drew));exact Kd.S_mono HT.out (fun k_ hk=>⟨trivial,hk.2⟩)));(case aS=>exact (below_size (by repeat (first|exact HB.out|apply below_alloc|apply pw_below_drewN|apply below_drew1))));(case aL=>have:=HUL.out;have:=HLL.out;have:=HIL.out;omega);intro v163 w17 ho hb hg hat;rw [← HR4.out] at ho;clear HB HT HE;have HB:=qA hb;have HT:=qA ho;clear ho hb hg hat))
          go_meet
          case rel=>exact ⟨HT,HB⟩
        |false=>
          have HR3:=qA (show rs2=rs by rw [HR2.out];rfl)
          go_wp2
          go_meet
          case rel=>exact ⟨⟨by rw [HR3.out];(with_reducible repeat (first|apply Kd.S_alloc|apply Kd.S_drewN|apply Kd.S_drew));exact HT.out⟩,⟨(by repeat (first|exact HB.out|apply below_alloc|apply pw_below_drewN|apply below_drew1))⟩⟩
      case rest=>
        clear HT HB hcell;obtain ⟨HT,HB⟩:=hcut
        have hpos:0 < rs2.length:=by
          rcases Nat.eq_zero_or_pos i with h|h
          · have hb:b=true:=by rw [HBN.out,h];simp [runNew]
            rw [HR2.out,if_pos hb];simp
          · exact HPO.out h
        have hlen:rs2.length≤1001:=by
          rw [HR2.out];have:=HUL.out;have:=HLL.out;have:=HIL.out
          split<;>simp<;>omega
        obtain ⟨kq,hkq⟩:∃ kq:Int,(rs2.length:Int) - 1=kq:=⟨_,rfl⟩
        have hw:wrap64 ((rs2.length:Int) - 1)=kq:=by rw [← hkq];unfold wrap64;omega
        have hw2:IntKind.i64.wrap ((rs2.length:Int) - 1)=kq:=(i64_w _).trans hw;have pj:=eq_true (show 0≤kq by omega);have qj:=eq_true (show kq < (rs2.length:Int) by omega);have hj1:decide (0≤kq)=true:=decide_eq_true (by omega);have hj2:decide (kq < (rs2.length:Int))=true:=decide_eq_true (by omega);have HEN:=qA (show (rs2.getD kq.toNat []).length≤1000 by have:=HEE.out kq.toNat;have:=HLL.out;have:=HIL.out;omega);have HKN:=qA (show kq.toNat=rs2.length - 1 by omega);obtain ⟨At2,ct2,et2⟩:=Kd.S_slice HT.out;subst et2;have qi3:=eq_true HIL.out;have qi4:=eq_true (show (i:Int) < (l0.length:Int) by have:=HIL.out;omega);clear hlen hkq
        go_upto_region 8 with (fail)
        have n0_:=qA (Kd.S_drew HT.out);have n1_:=qA (below_drew1 HB.out);clear HT HB;have HT:=n0_;have HB:=n1_;clear n0_ n1_;obtain ⟨go,co,eo,gb,gl,cl,hg0⟩:=Kd.S_form HT.out hpos;cases eo;have GB:=qA gb;clear gb gl hg0 cl hpos;obtain ⟨oki,ce,hcl,hM,hcc,hfr,hoki,hH⟩:=Kd.S_elem HT.out [] kq (of_eq_true pj) (of_eq_true qj);obtain ⟨ve,rfl,ge⟩:=hM;obtain ⟨Ae,cap,rfl⟩:=Kd.R_slice ge;have hx0:=hcc 0 _ rfl;rw [Nat.add_zero,show (Kd.slice 3 (Kd.int .i64)).sz=1 from rfl,Nat.mul_one] at hx0
        obtain ⟨el,hel⟩:∃ el,el=rs2.getD kq.toNat []:=⟨_,rfl⟩
        rw [← hel] at ge hx0 hH hcc;have HEL:=qA hel;have HLE:=qA (show el.length≤1000 by rw [hel];exact HEN.out);have UU:=qA ge;have HH:=qA hH;have HN:=qA (Kd.S_reads' HT.out).1
        obtain ⟨nw,hnw⟩:∃ nw,nw=el++[x]:=⟨_,rfl⟩
        have HNW:=qA hnw;have HOKI:=qA hoki;clear ge hH hoki hcc hfr hcl hel hnw;have hcell2:wc.drew.cell? (ad.add i)=some (.int .i64 x):=(HB.out.cell (World.block_lt_of_cell? w _ HCW.out)).trans HCW.out;have HCA:=qA (show ∀ W:World,Below w.heap.size w W→W.cell? (ad.add i)=some (.int .i64 x) from fun W hb_=>(hb_.cell (World.block_lt_of_cell? w _ HCW.out)).trans HCW.out);refine start_ (n:=14) (S:=fun w'=>w'.cell? ⟨go,(kq).toNat,none⟩=some (.slice Ae el.length cap)∧w'.cell? (ad.add i)=some (.int .i64 x)) (ds:=[13]) #[false,false,false,false,false,false,false,false,false,false,false,false,false,false] (by kernel_rfl) rfl rfl ⟨hx0,hcell2⟩ (fun hHeld=>?_);refine with_tabW sr_tab sr_bits (fun HT_ HW_=>?_);generalize wc.drew=w9 at HT HB HH UU hx0 hcell2 hHeld ⊢;refine pU 0 (some 34) rfl rfl ?_;refine pU 1 (some 35) rfl rfl ?_;refine pU 2 (some 36) rfl rfl ?_;refine pU 3 (some 37) rfl rfl ?_;refine pU 4 (some 38) rfl rfl ?_;refine pU 6 (some 40) rfl rfl ?_;refine pU 7 (some 41) rfl rfl ?_;refine pU 8 (some 42) rfl rfl ?_;refine tK2 5 (some 39) rfl rfl ?_ hHeld;refine tK2 9 (some 43) rfl rfl ?_ hHeld;refine one_ (i:=10) (N:=some 44) #[true,true,true,true,true,true,true,true,true,true,true,false,false,false] rfl rfl (one_of HT_.out (by kernel_rfl)) (by decide) (fun K hK=>?_);refine value_ (w1:=?_) (v:=?_) (by rfl) rfl ?_ ?_;rotate_left 2
        · go_simp
          constructor
          · rfl
          · rfl
        refine hK.out _ _ ⟨(World.cell?_alloc_lt _ _ _ (World.block_lt_of_cell? _ _ (hHeld.1))).trans (hHeld.1),(World.cell?_alloc_lt _ _ _ (World.block_lt_of_cell? _ _ (hHeld.2))).trans (hHeld.2)⟩ (fun hHeld=>?_);clear hK K;refine norm_ (a':=?_) ?_ ?_;rotate_left
        · show Act.put _ (some 44) _=_
          simp only [Act.put,List.setIfInBounds_toArray,List.set_cons_zero,List.set_cons_succ,i64_w,i32_w];rfl
        refine one_ (i:=11) (N:=some 45) #[true,true,true,true,true,true,true,true,true,true,true,true,false,false] rfl rfl (one_of HT_.out (by kernel_rfl)) (by decide) (fun K hK=>?_);refine Kd.R_append_step (Kd.int .i64) (w0:=w) w.heap.size (by rfl) (.tmp 39) (.tmp 44) 36 3 (.int .i64 0) 8 rfl Tryz.underlying36 info3 rfl (by decide) (by omega) (.slice Ae el.length cap) el x [.int .i64 x] (fun k_=>oki k_∨((fun _=>True)) k_∧w9.heap.size≤k_) (fun _=>False) rfl rfl ?aP (fun _ hk=>hk.elim) ?aF ?aO ?aB ?aS ?aL ?_
        (case aP=>exact rfl)
        (case aB=>exact (by repeat (first|exact HB.out|apply below_alloc|apply pw_below_drewN|apply below_drew1)))
        (case aF=>exact (fun k_ hk=>.inr ⟨trivial,hk⟩))
        (case aO=>exact (by (with_reducible repeat (first|apply Kd.R_alloc|apply Kd.R_drewN|apply Kd.R_drew));exact Kd.R_mono UU.out (fun _ hk=>.inl hk)))
        (case aS=>exact (below_size (by repeat (first|exact HB.out|apply below_alloc|apply pw_below_drewN|apply below_drew1))))
        (case aL=>have:=HLE.out;omega)
        intro v171 w21 ho hb hg hat;have HS0_:=cell_grown hg (cell_unalloc hHeld.1 (show go < w9.heap.size from Kd.S_lt HT.out _ rfl)) (fun e_=>(HOKI.out _ (UU.out.1 _ e_.symm)).2 rfl);have HS1_:=HCA.out w21 hb;rw [← HNW.out] at ho;have n0_:=qA hb;have n1_:=qA (Kd.H_grown (Kd.H_widen (by repeat (first|exact HH.out|refine Kd.H_alloc ?_ _|refine Kd.H_drewN ?_ _|refine Kd.H_drew ?_))) hg (fun k_ e_=>.inl (UU.out.1 k_ e_)));have n2_:=qA ho;clear HB HH HT UU;have HB:=n0_;have HH:=n1_;have HU2:=n2_;clear n0_ n1_ n2_ ho hb hg hat;obtain ⟨Ao,cn,eo⟩:=Kd.R_slice HU2.out;subst eo;obtain ⟨_,_,hraw,_,_,hcc,_⟩:=Kd.H_raw HH.out (of_eq_true pj) (of_eq_true qj);obtain ⟨_,hfr⟩:=Kd.H_at HH.out (of_eq_true pj) (of_eq_true qj);have hx22:=hcc 0 _ rfl;have hf22:=hfr 0
        (try simp only [Nat.add_zero] at hx22 hf22)
        (try rw [show (Kd.slice 3 (Kd.int .i64)).sz=1 from rfl,Nat.mul_one] at hx22)
        (try rw [show (Kd.slice 3 (Kd.int .i64)).sz=1 from rfl,Nat.mul_one] at hf22)
        have hp:=Kd.S_seg0 HH.out (of_eq_true pj) (of_eq_true qj) (seg:=[.slice Ao nw.length cn]) (j:=0) (show 1≤1 from by decide) (x':=nw) (Kd.M_row HU2.out) (fun _ hk=>hk)
        (try simp only [show (Kd.slice 3 (Kd.int .i64)).sz=1 from rfl,Nat.mul_one,Nat.add_zero] at hp)
        have HP:=qA hp.1;clear hcc hfr hp hraw;refine hK.out _ _ ⟨HS0_,HS1_⟩ (fun hHeld=>?_);clear hK K;refine norm_ (a':=?_) ?_ ?_;rotate_left
        · show Act.put _ (some 45) _=_
          simp only [Act.put,List.setIfInBounds_toArray,List.set_cons_zero,List.set_cons_succ,i64_w,i32_w];rfl
        refine pU 12 (some 46) rfl rfl ?_;refine last_ (i:=13) (N:=none) #[true,true,true,true,true,true,true,true,true,true,true,true,true,true] rfl rfl (one_of HT_.out (by kernel_rfl)) (by decide) (fun K hK=>?_);refine skip_ (w1:=?_) (by rfl) rfl ?_ ?_;rotate_left
        · go_simp;rfl
        refine hK.out _ _ ?_;clear hK K;refine done_ (done_of HT_.out (by kernel_rfl)) ?_
        go_wp2
        go_roundg k1
        case measure=>omega
        case rel=>
          refine ⟨i+1,by first|rfl|rw [E1.out],⟨by have:=HK.out;omega⟩,⟨?_⟩,⟨by repeat (first|exact HB.out|apply below_alloc|apply pw_below_drewN|apply below_drew1|refine below_set ?_ GB.out)⟩⟩
          have e_:runsU l0 (i+1)=rs2.set kq.toNat nw:=by
            rw [HNE.out,HNW.out,HEL.out,HKN.out];unfold runStep;rw [← HR2.out]
          rw [e_];exact HP.out
    · obtain rfl:i=l0.length:=by have:=HK.out;omega
      have d1:decide ((l0.length:Int) < (l0.length:Int))=false:=decide_eq_false (by omega);obtain ⟨At,ct,et⟩:=Kd.S_slice HT.out;subst et
      go_wp2
      go_ret;exact ⟨_,rfl,HT.out,HB.out⟩

end Go.Proofs.YtaoecbpfocillaaGreat.Xdz
