/- The program's runs: a pointer to the last row. -/
import Derived.Test.YtaoecbpfocillaaGreatZoXdz0
import Derived.OneCell
import Derived.Lib.SliceRun
import Derived.Laws.EntriesVeiled
namespace Go.Proofs.YtaoecbpfocillaaGreat.Xdz
open Go.RowKit Go.Proofs.YtaoecbpfocillaaGreatW.PrintWords Go.Proofs.YtaoecbpfocillaaGreatW.PrintLast Go.Proofs.YtaoecbpfocillaaGreatW.PrintMore
attribute [local go_sem] max2_int min2_int max_two min_two max_three min_three max_four min_four
set_option linter.unusedVariables false
set_option linter.unusedSimpArgs false
def runStep (rs:List (List Int)) (x:Int) (b:Bool):List (List Int):=(if b=true then rs++[[]] else rs).set ((if b=true then rs++[[]] else rs).length - 1) ((if b=true then rs++[[]] else rs).getD ((if b=true then rs++[[]] else rs).length - 1) []++[x])
def runNew (l:List Int) (i:Nat):Bool:=decide (i=0)||decide (rd l (i:Int) < rd l ((i:Int) - 1))
def runsU (l:List Int):Nat→List (List Int)
  |0=>[]
  |i+1=>runStep (runsU l i) (rd l (i:Int)) (runNew l i)
def impl_runs.f (l:List Int):Option (List (List Int)):=if l.length≤1000 then some (runsU l l.length) else none
theorem runStep_len (rs:List (List Int)) (x:Int) (b:Bool):(runStep rs x b).length=(if b=true then rs++[[]] else rs).length:=by simp [runStep]
theorem runsU_len (l:List Int):∀ i,(runsU l i).length≤i
  |0=>Nat.le_refl _
  |i+1=>by
    have:=runsU_len l i;simp only [runsU,runStep_len]
    split<;>simp<;>omega
theorem runsU_pos (l:List Int):∀ i,0 < i→0 < (if runNew l i=true then runsU l i++[[]] else runsU l i).length
  |0,h=>absurd h (by omega)
  |i+1,_=>by
    have h2:0 < (runsU l (i+1)).length:=by
      simp only [runsU,runStep_len]
      rcases Nat.eq_zero_or_pos i with rfl|h
      · have:runNew l 0=true:=by simp [runNew]
        rw [if_pos this];simp
      · exact runsU_pos l i h
    split<;>simp<;>omega
theorem runsU_rows (l:List Int):∀ i,∀ r ∈ runsU l i,r.length≤i
  |0,r,h=>by cases h
  |i+1,r,h=>by
    have ih:=runsU_rows l i
    have ih2:∀ q ∈ (if runNew l i=true then runsU l i++[[]] else runsU l i),q.length≤i:=by
      intro q hq
      split at hq
      · rcases List.mem_append.1 hq with hq|hq
        · exact ih q hq
        · rw [List.mem_singleton.1 hq];exact Nat.zero_le _
      · exact ih q hq
    simp only [runsU,runStep] at h;generalize (if runNew l i=true then runsU l i++[[]] else runsU l i)=t at h ih2
    rcases List.mem_or_eq_of_mem_set h with h|h
    · have:=ih2 r h;omega
    · rw [h,List.getD_eq_getElem?_getD]
      cases hg:t[t.length - 1]? with
      |none=>simp
      |some q=>
        have:=ih2 q (List.mem_of_getElem? hg);simp;omega
theorem runsU_elem (l:List Int) (i j:Nat):((if runNew l i=true then runsU l i++[[]] else runsU l i).getD j []).length≤i:=by
  rw [List.getD_eq_getElem?_getD]
  cases hg:(if runNew l i=true then runsU l i++[[]] else runsU l i)[j]? with
  |none=>simp
  |some q=>
    have hq:=List.mem_of_getElem? hg
    split at hq
    · rcases List.mem_append.1 hq with hq|hq
      · exact runsU_rows l i q hq
      · rw [List.mem_singleton.1 hq];exact Nat.zero_le _
    · exact runsU_rows l i q hq
set_option maxHeartbeats 16000000 in
set_option maxRecDepth 100000 in
theorem impl_runs.calls (A0:Option Addr) (c0:Nat) (l0:List Int) (r:List (List Int)) (w:World) (hr0:Kd.C (Kd.int .i64) w A0 l0.length l0) (hc0:l0.length≤c0) (h:impl_runs.f l0=some r):
    Calls Tryz.prog 54 #[.slice A0 l0.length c0] w fun e w'=>∃ v0_:Value,e=.returned (v0_)∧Kd.S (Kd.slice 3 (Kd.int .i64)) 36 w' w.heap.size (fun _=>True) v0_ r∧Below w.heap.size w w':=by
  unfold impl_runs.f at h;by_cases hll:l0.length≤1000
  · rw [if_pos hll] at h;obtain rfl:=Option.some.inj h;have HR0:=qA hr0;have HC0:=qA hc0;have HLL:=qA hll;have HB:=qA (Below.refl w.heap.size w);clear hr0 hc0 hll h;go_enter Tryz.func54,Tryz.ntmps54
    go_wp2_with (first
      |((with_reducible refine gate_dst (N:=7) rfl ?_);refine Kd.S_lit (Kd.slice 3 (Kd.int .i64)) (w0:=w) w.heap.size 36 ?hg (N:=7) ?hd (xs:=([]:List (List Int))) (inner:=[]) (ok:=fun _=>True) (okp:=fun _=>True) ?hr ?hp (fun _ hk=>hk) trivial (HB.out) (Nat.le_refl _) (by simp) ?_;(case hd=>rfl);(case hg=>rfl);(case hr=>first|(go_simp;done)|(go_simp;rfl));(case hp=>exact (Reps.none _ _));intro v9 w9 ho9 hb hg_ hnew_;have HT:=qA ho9;clear HB;have HB:=qA hb;clear hg_ hnew_ hb ho9))
    go_loopg [3,10] l0.length (fun kq v3 v10 wr=>∃ (i:Nat),v10=.int .i64 (i:Int)∧Aside0 (i+kq=l0.length)∧Aside0 (Kd.S (Kd.slice 3 (Kd.int .i64)) 36 wr w.heap.size (fun _=>True) v3 (runsU l0 i))∧Aside0 (Below w.heap.size w wr))
    case atStart=>exact ⟨0,rfl,⟨by omega⟩,HT,HB⟩
    case round=>
      clear HT HB;obtain ⟨i,rfl,HK,HT,HB⟩:=hrel;by_cases hi:i < l0.length
      · obtain ⟨k1,hk1⟩:∃ k1,gk=k1+1:=⟨gk - 1,by have:=HK.out;omega⟩
        subst hk1;have hd0:decide (0≤(i:Int))=true:=decide_eq_true (by omega);have hd1:decide (i < l0.length)=true:=decide_eq_true hi;obtain ⟨ad,ead,hcell⟩:=Kd.at_int (Kd.C_below HR0.out HB.out) (i:Int) (by omega) (by omega);subst ead;rw [Int.toNat_natCast] at hcell
        obtain ⟨x,hx⟩:∃ x,x=rd l0 (i:Int):=⟨_,rfl⟩
        rw [← hx] at hcell;have HX:=qA hx;clear hx;have HPOS:=qA (runsU_pos l0 i);have HLEN:=qA (runsU_len l0 i);have HROW:=qA (fun j=>runsU_elem l0 i j);have HNEW:=qA (show runNew l0 i=(decide (i=0)||decide (rd l0 (i:Int) < rd l0 ((i:Int) - 1))) from rfl);have HNXT:=qA (show runsU l0 (i+1)=runStep (runsU l0 i) (rd l0 (i:Int)) (runNew l0 i) from rfl);rw [← HX.out] at HNEW HNXT;generalize runNew l0 i=nb at HPOS HROW HNEW HNXT
        obtain ⟨tw,htw⟩:∃ tw,tw=runsU l0 i:=⟨_,rfl⟩
        rw [← htw] at HPOS HLEN HROW HNXT HT;obtain ⟨At,ct,et⟩:=Kd.S_slice HT.out;subst et;clear htw
        obtain ⟨tw2,htw2⟩:∃ tw2,tw2=if nb=true then tw++[[]] else tw:=⟨_,rfl⟩
        have HNXT2:=qA (show runsU l0 (i+1)=tw2.set (tw2.length - 1) (tw2.getD (tw2.length - 1) []++[x]) by rw [htw2];exact HNXT.out);have HROW2:=qA (show ∀ j,(tw2.getD j []).length≤i by rw [htw2];exact HROW.out);have HPOS2:=qA (show 0 < i→0 < tw2.length by rw [htw2];exact HPOS.out);have HTW2:=qA htw2;clear HNXT HROW HPOS htw2;by_cases hz:i=0
        · have hz1:((i:Int)==0)=true:=beq_iff_eq.2 (by omega);have hnb:nb=true:=by rw [HNEW.out];simp [hz]
          subst hnb;clear hz;have htw3:tw2=tw++[[]]:=by rw [HTW2.out];simp
          have HTW3:=qA htw3;clear htw3
          go_upto_region 7 with (first
            |((with_reducible refine gate_builtin (b:=.append) (xs:= #[.tmp 26,.tmp 27]) rfl ?_);at_builtin;refine Kd.S_append (Kd.slice 3 (Kd.int .i64)) (w0:=w) w.heap.size rfl (.tmp 26) (.tmp 27) 32 36 (.slice none 0 0) 24 rfl Tryz.underlying32 info36 rfl (by decide) (by omega) (.slice At tw.length ct) tw ([]:List Int) [.slice none 0 0] (fun _=>True) (fun _=>False) rfl rfl ?aP (fun _ hk=>hk.elim) (fun _ _=>trivial) ?aO ?aB ?aS ?aL ?_;(case aP=>exact Kd.M_row (Kd.R_nil _ _ _ _ _));(case aB=>exact (by repeat (first|(with_reducible first|exact HB.out|apply below_alloc|apply pw_below_drewN|apply below_drew1)|exact HB.out)));(case aO=>exact (by (with_reducible repeat (first|apply Kd.S_alloc|apply Kd.S_drewN|apply Kd.S_drew));exact Kd.S_mono HT.out (fun k_ hk=>⟨hk,fun e_=>e_⟩)));(case aS=>exact (below_size (by repeat (first|(with_reducible first|exact HB.out|apply below_alloc|apply pw_below_drewN|apply below_drew1)|exact HB.out))));(case aL=>have:=HLEN.out;have:=HLL.out;omega);intro v163 w17 ho hb hg hat;rw [← HTW3.out] at ho;obtain ⟨Aw,cw,ew⟩:=Kd.S_slice ho;subst ew;clear HB HT;have HB:=qA hb;have HT:=qA ho;clear ho hb hg hat))
          obtain ⟨WA,hWA⟩:∃ WA:World,WA=w17:=⟨_,rfl⟩
          subst hWA;have hlen2:0 < tw2.length:=by rw [HTW3.out];simp
          have hlen3:tw2.length≤2000:=by have:=HLEN.out;have:=HLL.out;rw [HTW3.out,List.length_append];simp only [List.length_singleton];omega
          obtain ⟨jt,hjt⟩:∃ jt:Int,wrap64 ((tw2.length:Int) - 1)=jt:=⟨_,rfl⟩
          have hjtw:IntKind.i64.wrap ((tw2.length:Int) - 1)=jt:=(i64_w _).trans hjt;have hjn:jt=((tw2.length - 1:Nat):Int):=by rw [← hjt];unfold wrap64;omega
          have hj1:decide (0≤jt)=true:=decide_eq_true (by omega);have hj2:decide (jt < (tw2.length:Int))=true:=decide_eq_true (by omega);have pj:=eq_true (show 0≤jt by omega);have qj:=eq_true (show jt < (tw2.length:Int) by omega);have HJN:=qA hjn;have HL2:=qA hlen2;clear hjn hlen2 hlen3;obtain ⟨go,co,eo,gb,gl,cl,hg0⟩:=Kd.S_form HT.out (by have:=HL2.out;omega);cases eo;have GB:=qA gb;clear gb gl hg0 cl;obtain ⟨oki,ce,hcl,hM,hcc,hfr,hoki,hH⟩:=Kd.S_elem HT.out [] jt (of_eq_true pj) (of_eq_true qj);obtain ⟨ve,rfl,ge⟩:=hM;obtain ⟨Ae,cap,rfl⟩:=Kd.R_slice ge;have hx0:=hcc 0 _ rfl;rw [Nat.add_zero,show (Kd.slice 3 (Kd.int .i64)).sz=1 from rfl,Nat.mul_one] at hx0
          obtain ⟨el,hel⟩:∃ el,el=tw2.getD jt.toNat []:=⟨_,rfl⟩
          have hlim:el.length≤1000:=by rw [hel];have:=HROW2.out jt.toNat;have:=HLL.out;omega
          rw [← hel] at ge hx0 hH hcc;have HEL:=qA hel;have HLIM:=qA hlim;have UU:=qA ge;have HH:=qA hH;have HOKI:=qA hoki;have HN:=qA (Kd.S_reads' HT.out).1;have E1:=qA (show wrap64 ((i:Int)+1)=((i+1:Nat):Int) by have:=HLL.out;have:=HK.out;unfold wrap64;omega)
          obtain ⟨nw,hnw⟩:∃ nw,nw=el++[x]:=⟨_,rfl⟩
          have HNW:=qA hnw;clear ge hH hoki hcc hfr hcl hel hlim hnw
          go_wp2_with (first
            |((with_reducible refine gate_builtin (b:=.append) (xs:= #[.tmp 37,.tmp 39]) rfl ?_);at_builtin;refine Kd.R_append (Kd.int .i64) (w0:=w) w.heap.size rfl (.tmp 37) (.tmp 39) 36 3 (.int .i64 0) 8 rfl Tryz.underlying36 info3 rfl (by decide) (by omega) (.slice Ae el.length cap) el x [.int .i64 x] (fun k_=>oki k_∨(fun _=>True) k_∧WA.heap.size≤k_) (fun _=>False) rfl rfl ?aP (fun _ hk=>hk.elim) ?aF ?aO ?aB ?aS ?aL ?_;(case aP=>exact rfl);(case aB=>exact (by repeat (first|(with_reducible first|exact HB.out|apply below_alloc|apply pw_below_drewN|apply below_drew1)|exact HB.out)));(case aF=>exact (fun k_ hk=>.inr ⟨trivial,hk⟩));(case aO=>exact (by (with_reducible repeat (first|apply Kd.R_alloc|apply Kd.R_drewN|apply Kd.R_drew));exact Kd.R_mono UU.out (fun _ hk=>.inl hk)));(case aS=>exact (below_size (by repeat (first|(with_reducible first|exact HB.out|apply below_alloc|apply pw_below_drewN|apply below_drew1)|exact HB.out))));(case aL=>have:=HLIM.out;omega);intro v183 w40 ho hb hg hat;rw [← HNW.out] at ho;have n0_:=qA (hb);have n1_:=qA (Kd.H_grown (Kd.H_widen (by repeat (first|exact HH.out|refine Kd.H_alloc ?_ _|refine Kd.H_drewN ?_ _|refine Kd.H_drew ?_))) hg (fun k_ e_=>.inl (UU.out.1 k_ e_)));have n2_:=qA (ho);clear HB HH HT UU;have HB:=n0_;have HH:=n1_;have HU2:=n2_;clear n0_ n1_ n2_;clear ho hb hg hat;obtain ⟨Ao,cn,eo⟩:=Kd.R_slice HU2.out;subst eo;obtain ⟨_,_,hraw,_,_,hcc,_⟩:=Kd.H_raw HH.out (of_eq_true pj) (of_eq_true qj);obtain ⟨_,hfr⟩:=Kd.H_at HH.out (of_eq_true pj) (of_eq_true qj);have hx22:=hcc 0 _ rfl;have hf22:=hfr 0;(try simp only [Nat.add_zero] at hx22 hf22);(try rw [show (Kd.slice 3 (Kd.int .i64)).sz=1 from rfl,Nat.mul_one] at hx22);(try rw [show (Kd.slice 3 (Kd.int .i64)).sz=1 from rfl,Nat.mul_one] at hf22);have hp:=Kd.S_seg0 HH.out (of_eq_true pj) (of_eq_true qj) (seg:=[.slice Ao nw.length cn]) (j:=0) (show 1≤1 from by decide) (x':=nw) (Kd.M_row HU2.out) (fun _ hk=>hk);(try simp only [show (Kd.slice 3 (Kd.int .i64)).sz=1 from rfl,Nat.mul_one,Nat.add_zero] at hp);have HP:=qA hp;clear hcc hfr hp hraw))
          go_roundg k1
          case measure=>omega
          case rel=>exact ⟨i+1,by first|rfl|rw [E1.out],⟨by have:=HK.out;omega⟩,⟨by rw [HNXT2.out,show tw2.length - 1=jt.toNat by rw [HJN.out,Int.toNat_natCast],← HEL.out,← HNW.out];exact Kd.S_mono HP.out.1 (fun _ _=>trivial)⟩,⟨below_set HB.out GB.out⟩⟩
        · have hz1:((i:Int)==0)=false:=beq_eq_false_iff_ne.2 (by omega);have hz2:decide (0≤(i:Int) - 1)=true:=decide_eq_true (by omega);have hz3:decide ((i:Int) - 1 < (l0.length:Int))=true:=decide_eq_true (by omega);have hzw:wrap64 ((i:Int) - 1)=(i:Int) - 1:=by have:=HLL.out;unfold wrap64;omega
          have hzv:IntKind.i64.wrap ((i:Int) - 1)=(i:Int) - 1:=(i64_w _).trans hzw;obtain ⟨ad2,ead2,hcell2⟩:=Kd.at_int (Kd.C_below HR0.out HB.out) ((i:Int) - 1) (by omega) (by omega);cases ead2
          obtain ⟨y,hy⟩:∃ y,y=rd l0 ((i:Int) - 1):=⟨_,rfl⟩
          rw [← hy] at hcell2 HNEW;clear hy
          obtain ⟨ji,hji⟩:∃ ji,ji=(i:Int) - 1:=⟨_,rfl⟩
          replace hzw:wrap64 ((i:Int) - 1)=ji:=by rw [hji];exact hzw
          replace hzv:IntKind.i64.wrap ((i:Int) - 1)=ji:=by rw [hji];exact hzv
          rw [← hji] at hz2 hz3 hcell2;have pz2:=eq_true (of_decide_eq_true hz2);have pz3:=eq_true (of_decide_eq_true hz3);clear hji;by_cases hxy:x < y
          · have hxy1:decide (x < y)=true:=decide_eq_true hxy;have hnb:nb=true:=by rw [HNEW.out];simp [hxy]
            subst hnb;clear hxy;have htw3:tw2=tw++[[]]:=by rw [HTW2.out];simp
            have HTW3:=qA htw3;clear htw3
            go_upto_region 7 with (first
              |((with_reducible refine gate_builtin (b:=.append) (xs:= #[.tmp 26,.tmp 27]) rfl ?_);at_builtin;refine Kd.S_append (Kd.slice 3 (Kd.int .i64)) (w0:=w) w.heap.size rfl (.tmp 26) (.tmp 27) 32 36 (.slice none 0 0) 24 rfl Tryz.underlying32 info36 rfl (by decide) (by omega) (.slice At tw.length ct) tw ([]:List Int) [.slice none 0 0] (fun _=>True) (fun _=>False) rfl rfl ?aP (fun _ hk=>hk.elim) (fun _ _=>trivial) ?aO ?aB ?aS ?aL ?_;(case aP=>exact Kd.M_row (Kd.R_nil _ _ _ _ _));(case aB=>exact (by repeat (first|(with_reducible first|exact HB.out|apply below_alloc|apply pw_below_drewN|apply below_drew1)|exact HB.out)));(case aO=>exact (by (with_reducible repeat (first|apply Kd.S_alloc|apply Kd.S_drewN|apply Kd.S_drew));exact Kd.S_mono HT.out (fun k_ hk=>⟨hk,fun e_=>e_⟩)));(case aS=>exact (below_size (by repeat (first|(with_reducible first|exact HB.out|apply below_alloc|apply pw_below_drewN|apply below_drew1)|exact HB.out))));(case aL=>have:=HLEN.out;have:=HLL.out;omega);intro v163 w17 ho hb hg hat;rw [← HTW3.out] at ho;obtain ⟨Aw,cw,ew⟩:=Kd.S_slice ho;subst ew;clear HB HT;have HB:=qA hb;have HT:=qA ho;clear ho hb hg hat))
            obtain ⟨WA,hWA⟩:∃ WA:World,WA=w17:=⟨_,rfl⟩
            subst hWA;have hlen2:0 < tw2.length:=by rw [HTW3.out];simp
            have hlen3:tw2.length≤2000:=by have:=HLEN.out;have:=HLL.out;rw [HTW3.out,List.length_append];simp only [List.length_singleton];omega
            obtain ⟨jt,hjt⟩:∃ jt:Int,wrap64 ((tw2.length:Int) - 1)=jt:=⟨_,rfl⟩
            have hjtw:IntKind.i64.wrap ((tw2.length:Int) - 1)=jt:=(i64_w _).trans hjt;have hjn:jt=((tw2.length - 1:Nat):Int):=by rw [← hjt];unfold wrap64;omega
            have hj1:decide (0≤jt)=true:=decide_eq_true (by omega);have hj2:decide (jt < (tw2.length:Int))=true:=decide_eq_true (by omega);have pj:=eq_true (show 0≤jt by omega);have qj:=eq_true (show jt < (tw2.length:Int) by omega);have HJN:=qA hjn;have HL2:=qA hlen2;clear hjn hlen2 hlen3;obtain ⟨go,co,eo,gb,gl,cl,hg0⟩:=Kd.S_form HT.out (by have:=HL2.out;omega);cases eo;have GB:=qA gb;clear gb gl hg0 cl;obtain ⟨oki,ce,hcl,hM,hcc,hfr,hoki,hH⟩:=Kd.S_elem HT.out [] jt (of_eq_true pj) (of_eq_true qj);obtain ⟨ve,rfl,ge⟩:=hM;obtain ⟨Ae,cap,rfl⟩:=Kd.R_slice ge;have hx0:=hcc 0 _ rfl;rw [Nat.add_zero,show (Kd.slice 3 (Kd.int .i64)).sz=1 from rfl,Nat.mul_one] at hx0
            obtain ⟨el,hel⟩:∃ el,el=tw2.getD jt.toNat []:=⟨_,rfl⟩
            have hlim:el.length≤1000:=by rw [hel];have:=HROW2.out jt.toNat;have:=HLL.out;omega
            rw [← hel] at ge hx0 hH hcc;have HEL:=qA hel;have HLIM:=qA hlim;have UU:=qA ge;have HH:=qA hH;have HOKI:=qA hoki;have HN:=qA (Kd.S_reads' HT.out).1;have E1:=qA (show wrap64 ((i:Int)+1)=((i+1:Nat):Int) by have:=HLL.out;have:=HK.out;unfold wrap64;omega)
            obtain ⟨nw,hnw⟩:∃ nw,nw=el++[x]:=⟨_,rfl⟩
            have HNW:=qA hnw;clear ge hH hoki hcc hfr hcl hel hlim hnw
            go_wp2_with (first
              |((with_reducible refine gate_builtin (b:=.append) (xs:= #[.tmp 37,.tmp 39]) rfl ?_);at_builtin;refine Kd.R_append (Kd.int .i64) (w0:=w) w.heap.size rfl (.tmp 37) (.tmp 39) 36 3 (.int .i64 0) 8 rfl Tryz.underlying36 info3 rfl (by decide) (by omega) (.slice Ae el.length cap) el x [.int .i64 x] (fun k_=>oki k_∨(fun _=>True) k_∧WA.heap.size≤k_) (fun _=>False) rfl rfl ?aP (fun _ hk=>hk.elim) ?aF ?aO ?aB ?aS ?aL ?_;(case aP=>exact rfl);(case aB=>exact (by repeat (first|(with_reducible first|exact HB.out|apply below_alloc|apply pw_below_drewN|apply below_drew1)|exact HB.out)));(case aF=>exact (fun k_ hk=>.inr ⟨trivial,hk⟩));(case aO=>exact (by (with_reducible repeat (first|apply Kd.R_alloc|apply Kd.R_drewN|apply Kd.R_drew));exact Kd.R_mono UU.out (fun _ hk=>.inl hk)));(case aS=>exact (below_size (by repeat (first|(with_reducible first|exact HB.out|apply below_alloc|apply pw_below_drewN|apply below_drew1)|exact HB.out))));(case aL=>have:=HLIM.out;omega);intro v183 w40 ho hb hg hat;rw [← HNW.out] at ho;have n0_:=qA (hb);have n1_:=qA (Kd.H_grown (Kd.H_widen (by repeat (first|exact HH.out|refine Kd.H_alloc ?_ _|refine Kd.H_drewN ?_ _|refine Kd.H_drew ?_))) hg (fun k_ e_=>.inl (UU.out.1 k_ e_)));have n2_:=qA (ho);clear HB HH HT UU;have HB:=n0_;have HH:=n1_;have HU2:=n2_;clear n0_ n1_ n2_;clear ho hb hg hat;obtain ⟨Ao,cn,eo⟩:=Kd.R_slice HU2.out;subst eo;obtain ⟨_,_,hraw,_,_,hcc,_⟩:=Kd.H_raw HH.out (of_eq_true pj) (of_eq_true qj);obtain ⟨_,hfr⟩:=Kd.H_at HH.out (of_eq_true pj) (of_eq_true qj);have hx22:=hcc 0 _ rfl;have hf22:=hfr 0;(try simp only [Nat.add_zero] at hx22 hf22);(try rw [show (Kd.slice 3 (Kd.int .i64)).sz=1 from rfl,Nat.mul_one] at hx22);(try rw [show (Kd.slice 3 (Kd.int .i64)).sz=1 from rfl,Nat.mul_one] at hf22);have hp:=Kd.S_seg0 HH.out (of_eq_true pj) (of_eq_true qj) (seg:=[.slice Ao nw.length cn]) (j:=0) (show 1≤1 from by decide) (x':=nw) (Kd.M_row HU2.out) (fun _ hk=>hk);(try simp only [show (Kd.slice 3 (Kd.int .i64)).sz=1 from rfl,Nat.mul_one,Nat.add_zero] at hp);have HP:=qA hp;clear hcc hfr hp hraw))
            go_roundg k1
            case measure=>omega
            case rel=>exact ⟨i+1,by first|rfl|rw [E1.out],⟨by have:=HK.out;omega⟩,⟨by rw [HNXT2.out,show tw2.length - 1=jt.toNat by rw [HJN.out,Int.toNat_natCast],← HEL.out,← HNW.out];exact Kd.S_mono HP.out.1 (fun _ _=>trivial)⟩,⟨below_set HB.out GB.out⟩⟩
          · have hxy1:decide (x < y)=false:=decide_eq_false hxy;have hnb:nb=false:=by rw [HNEW.out];simp [hxy,hz]
            subst hnb;clear hxy;have htw3:tw2=tw:=by rw [HTW2.out];simp
            subst htw3
            go_upto_region 7 with (fail)
            obtain ⟨WA,hWA⟩:∃ WA:World,WA=wr:=⟨_,rfl⟩
            subst hWA;have hlen2:0 < tw2.length:=by exact HPOS2.out (by omega)
            have hlen3:tw2.length≤2000:=by have:=HLEN.out;have:=HLL.out;omega
            obtain ⟨jt,hjt⟩:∃ jt:Int,wrap64 ((tw2.length:Int) - 1)=jt:=⟨_,rfl⟩
            have hjtw:IntKind.i64.wrap ((tw2.length:Int) - 1)=jt:=(i64_w _).trans hjt;have hjn:jt=((tw2.length - 1:Nat):Int):=by rw [← hjt];unfold wrap64;omega
            have hj1:decide (0≤jt)=true:=decide_eq_true (by omega);have hj2:decide (jt < (tw2.length:Int))=true:=decide_eq_true (by omega);have pj:=eq_true (show 0≤jt by omega);have qj:=eq_true (show jt < (tw2.length:Int) by omega);have HJN:=qA hjn;have HL2:=qA hlen2;clear hjn hlen2 hlen3;obtain ⟨go,co,eo,gb,gl,cl,hg0⟩:=Kd.S_form HT.out (by have:=HL2.out;omega);cases eo;have GB:=qA gb;clear gb gl hg0 cl;obtain ⟨oki,ce,hcl,hM,hcc,hfr,hoki,hH⟩:=Kd.S_elem HT.out [] jt (of_eq_true pj) (of_eq_true qj);obtain ⟨ve,rfl,ge⟩:=hM;obtain ⟨Ae,cap,rfl⟩:=Kd.R_slice ge;have hx0:=hcc 0 _ rfl;rw [Nat.add_zero,show (Kd.slice 3 (Kd.int .i64)).sz=1 from rfl,Nat.mul_one] at hx0
            obtain ⟨el,hel⟩:∃ el,el=tw2.getD jt.toNat []:=⟨_,rfl⟩
            have hlim:el.length≤1000:=by rw [hel];have:=HROW2.out jt.toNat;have:=HLL.out;omega
            rw [← hel] at ge hx0 hH hcc;have HEL:=qA hel;have HLIM:=qA hlim;have UU:=qA ge;have HH:=qA hH;have HOKI:=qA hoki;have HN:=qA (Kd.S_reads' HT.out).1;have E1:=qA (show wrap64 ((i:Int)+1)=((i+1:Nat):Int) by have:=HLL.out;have:=HK.out;unfold wrap64;omega)
            obtain ⟨nw,hnw⟩:∃ nw,nw=el++[x]:=⟨_,rfl⟩
            have HNW:=qA hnw;clear ge hH hoki hcc hfr hcl hel hlim hnw
            go_wp2_with (first
              |((with_reducible refine gate_builtin (b:=.append) (xs:= #[.tmp 37,.tmp 39]) rfl ?_);at_builtin;refine Kd.R_append (Kd.int .i64) (w0:=w) w.heap.size rfl (.tmp 37) (.tmp 39) 36 3 (.int .i64 0) 8 rfl Tryz.underlying36 info3 rfl (by decide) (by omega) (.slice Ae el.length cap) el x [.int .i64 x] (fun k_=>oki k_∨(fun _=>True) k_∧WA.heap.size≤k_) (fun _=>False) rfl rfl ?aP (fun _ hk=>hk.elim) ?aF ?aO ?aB ?aS ?aL ?_;(case aP=>exact rfl);(case aB=>exact (by repeat (first|(with_reducible first|exact HB.out|apply below_alloc|apply pw_below_drewN|apply below_drew1)|exact HB.out)));(case aF=>exact (fun k_ hk=>.inr ⟨trivial,hk⟩));(case aO=>exact (by (with_reducible repeat (first|apply Kd.R_alloc|apply Kd.R_drewN|apply Kd.R_drew));exact Kd.R_mono UU.out (fun _ hk=>.inl hk)));(case aS=>exact (below_size (by repeat (first|(with_reducible first|exact HB.out|apply below_alloc|apply pw_below_drewN|apply below_drew1)|exact HB.out))));(case aL=>have:=HLIM.out;omega);intro v183 w40 ho hb hg hat;rw [← HNW.out] at ho;have n0_:=qA (hb);have n1_:=qA (Kd.H_grown (Kd.H_widen (by repeat (first|exact HH.out|refine Kd.H_alloc ?_ _|refine Kd.H_drewN ?_ _|refine Kd.H_drew ?_))) hg (fun k_ e_=>.inl (UU.out.1 k_ e_)));have n2_:=qA (ho);clear HB HH HT UU;have HB:=n0_;have HH:=n1_;have HU2:=n2_;clear n0_ n1_ n2_;clear ho hb hg hat;obtain ⟨Ao,cn,eo⟩:=Kd.R_slice HU2.out;subst eo;obtain ⟨_,_,hraw,_,_,hcc,_⟩:=Kd.H_raw HH.out (of_eq_true pj) (of_eq_true qj);obtain ⟨_,hfr⟩:=Kd.H_at HH.out (of_eq_true pj) (of_eq_true qj);have hx22:=hcc 0 _ rfl;have hf22:=hfr 0;(try simp only [Nat.add_zero] at hx22 hf22);(try rw [show (Kd.slice 3 (Kd.int .i64)).sz=1 from rfl,Nat.mul_one] at hx22);(try rw [show (Kd.slice 3 (Kd.int .i64)).sz=1 from rfl,Nat.mul_one] at hf22);have hp:=Kd.S_seg0 HH.out (of_eq_true pj) (of_eq_true qj) (seg:=[.slice Ao nw.length cn]) (j:=0) (show 1≤1 from by decide) (x':=nw) (Kd.M_row HU2.out) (fun _ hk=>hk);(try simp only [show (Kd.slice 3 (Kd.int .i64)).sz=1 from rfl,Nat.mul_one,Nat.add_zero] at hp);have HP:=qA hp;clear hcc hfr hp hraw))
            go_roundg k1
            case measure=>omega
            case rel=>exact ⟨i+1,by first|rfl|rw [E1.out],⟨by have:=HK.out;omega⟩,⟨by rw [HNXT2.out,show tw2.length - 1=jt.toNat by rw [HJN.out,Int.toNat_natCast],← HEL.out,← HNW.out];exact Kd.S_mono HP.out.1 (fun _ _=>trivial)⟩,⟨below_set HB.out GB.out⟩⟩
      · obtain rfl:i=l0.length:=by have:=HK.out;omega
        have hd1:decide ((l0.length:Int) < (l0.length:Int))=false:=decide_eq_false (by omega)
        go_wp2
        go_ret;exact ⟨_,rfl,HT.out,HB.out⟩
  · rw [if_neg hll] at h;cases h

end Go.Proofs.YtaoecbpfocillaaGreat.Xdz
