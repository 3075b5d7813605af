/- Rows of an order and their twin rows: the reference. -/
import Derived.Test.YtaoecbpfocillaaGreatZoXdz0
import Derived.Test.YtaoecbpfocillaaGreatZoXdz13
import Derived.OneCell
import Derived.Lib.SliceRun
namespace Go.Proofs.YtaoecbpfocillaaGreat.Xdz
open Go.RowKit Go.Proofs.YtaoecbpfocillaaGreatW.PrintWords Go.Proofs.YtaoecbpfocillaaGreatW.PrintLast Go.Proofs.YtaoecbpfocillaaGreatW.PrintMore
attribute [local go_sem] max2_int min2_int max_two min_two max_three min_three max_four min_four
set_option linter.unusedVariables false
set_option linter.unusedSimpArgs false
def twL (tw:List (List Int)) (jt:Int):List (List Int):=if jt=(tw.length:Int) then tw++[[]] else tw
def rowsL (G:List (List Int)→Int→Option (List (List Int) × Int)):List Int→Nat→List (List Int)→List (List Int)→Option (List (List Int) × List (List Int))
 |[],_,rs,tw=>some (rs,tw)
 |x :: t,i,rs,tw=>(G rs x).bind fun p=>if tw.length < 1000∧0≤p.2∧p.2 < ((twL tw p.2).length:Int)∧((twL tw p.2).getD p.2.toNat []).length < 1000 then rowsL G t (i+1) p.1 ((twL tw p.2).set p.2.toNat ((twL tw p.2).getD p.2.toNat []++[((i+1:Nat):Int)])) else none
def spec_l5Rows.f (k:Nat) (l:List Int):Option (List (List Int) × List (List Int)):=if l.length≤1000 then rowsL (spec_l5Insert.f k) l 0 [] [] else none
theorem rowsL_le {G H:List (List Int)→Int→Option (List (List Int) × Int)} (h:∀ l x,LeO (G l x) (H l x)):∀ t i rs tw,LeO (rowsL G t i rs tw) (rowsL H t i rs tw)
 |[],_,_,_=>LeO.refl _
 |x :: t,i,rs,tw=>LeO.bind (h rs x) fun _=>LeO.ite (rowsL_le h t _ _ _) (LeO.none _)
theorem spec_l5Rows.mono:∀ a0 k,LeO (spec_l5Rows.f k a0) (spec_l5Rows.f (k+1) a0):=fun a0 k=>LeO.ite (rowsL_le (fun l x=>spec_l5Insert.mono l x k) _ _ _ _) (LeO.none _)
theorem drop_rd (l:List Int) (i:Nat) (h:i < l.length):l.drop i=rd l (i:Int) :: l.drop (i+1):=by
 unfold rd;rw [Int.toNat_natCast,List.drop_eq_getElem_cons h];simp [h]
set_option maxHeartbeats 16000000 in
set_option maxRecDepth 100000 in
theorem spec_l5Rows.calls (k:Nat) (A0:Option Addr) (c0:Nat) (l0:List Int) (r1 r2:List (List Int)) (w:World) (hr0:Kd.C (Kd.int .i64) w A0 l0.length l0) (hc0:l0.length≤c0) (h:spec_l5Rows.f k l0=some (r1,r2)):
  Calls Tryz.prog 59 #[.slice A0 l0.length c0] w fun e w'=>∃ v0_ v1_:Value,e=.returned (.tuple #[v0_,v1_])∧Kd.S (Kd.slice 3 (Kd.int .i64)) 36 w' w.heap.size (fun _=>True) v0_ r1∧Kd.S (Kd.slice 3 (Kd.int .i64)) 36 w' w.heap.size (fun _=>True) v1_ r2∧Below w.heap.size w w':=by
 unfold spec_l5Rows.f at h;by_cases hll:l0.length≤1000
 ·rw [if_pos hll] at h;have HR0:=qA hr0;have HC0:=qA hc0;have HLL:=qA hll;have H:=qA h;have HB:=qA (Below.refl w.heap.size w);clear hr0 hc0 hll h;go_enter Tryz.func59,Tryz.ntmps59
  go_wp2_with (first
   |((with_reducible refine gate_dst (N:=9) rfl ?_);refine Kd.S_lit (Kd.slice 3 (Kd.int .i64)) (w0:=w) w.heap.size 36 ?hg (N:=9) ?hd (xs:=([]:List (List Int))) (inner:=[]) (ok:=fun _=>True) (okp:=fun _=>True) ?hr ?hp (fun _ hk=>hk) trivial (HB.out) (Nat.le_refl _) (by simp) ?_;(case hd=>rfl);(case hg=>rfl);(case hr=>first|(go_simp;done)|(go_simp;rfl));(case hp=>exact (Reps.none _ _));intro v9 w9 ho9 hb hg_ hnew_;have HR:=qA ho9;clear HB;have HB:=qA hb;clear hg_ hnew_ hb ho9)
   |((with_reducible refine gate_dst (N:=10) rfl ?_);refine Kd.S_lit (Kd.slice 3 (Kd.int .i64)) (w0:=w) w.heap.size 36 ?hg (N:=10) ?hd (xs:=([]:List (List Int))) (inner:=[]) (ok:=fun _=>True) (okp:=fun _=>True) ?hr ?hp (fun _ hk=>hk) trivial (HB.out) (below_size HB.out) (by simp) ?_;(case hd=>rfl);(case hg=>rfl);(case hr=>first|(go_simp;done)|(go_simp;rfl));(case hp=>exact (Reps.none _ _));intro v10 w10 ho10 hb hg_ hnew_;have HT:=qA ho10;have n0_:=qA (Kd.S_grown HR.out hg_ (fun _ _ e_=>by cases e_));clear HB HR;have HB:=qA hb;have HR:=n0_;clear hg_ hnew_ hb ho10 n0_))
  go_loopg [4,5,6] l0.length (fun kq v4 v5 v6 wr=>∃ (i:Nat) (rs tw:List (List Int)),v6=.int .i64 (i:Int)∧Aside0 (i+kq=l0.length)∧Aside0 (rowsL (spec_l5Insert.f k) (l0.drop i) i rs tw=some (r1,r2))∧Aside0 (Kd.S (Kd.slice 3 (Kd.int .i64)) 36 wr w.heap.size (fun _=>True) v4 rs)∧Aside0 (Kd.S (Kd.slice 3 (Kd.int .i64)) 36 wr w.heap.size (fun _=>True) v5 tw)∧Aside0 (Below w.heap.size w wr))
  case atStart=>exact ⟨0,[],[],rfl,⟨by omega⟩,H,HR,HT,HB⟩
  case round=>
   clear H HR HT HB;obtain ⟨i,rs,tw,rfl,HK,HL,HR,HT,HB⟩:=hrel;by_cases hi:i < l0.length
   ·obtain ⟨k1,hk1⟩:∃ k1,gk=k1+1:=⟨gk - 1,by have:=HK.out;omega⟩
    subst hk1;have hd0:decide (0≤(i:Int))=true:=decide_eq_true (by omega);have hd1:decide (i < l0.length)=true:=decide_eq_true hi;have hl:=HL.out;rw [drop_rd l0 i hi] at hl;simp only [rowsL] at hl;obtain ⟨⟨rs2,jt⟩,hins,hl⟩:=Option.bind_eq_some_iff.1 hl
    obtain ⟨tw2,htw2⟩:∃ tw2,tw2=twL tw jt:=⟨_,rfl⟩
    dsimp only at hl;rw [← htw2] at hl
    have hcnd:tw.length < 1000∧0≤jt∧jt < (tw2.length:Int)∧(tw2.getD jt.toNat []).length < 1000:=by
     by_cases h0:tw.length < 1000∧0≤jt∧jt < (tw2.length:Int)∧(tw2.getD jt.toNat []).length < 1000
     ·exact h0
     ·rw [if_neg h0] at hl;cases hl
    rw [if_pos hcnd] at hl;have HL2:=qA hl;have HINS:=qA hins;have HJ:=qA hcnd.2;have HTL:=qA hcnd.1;have HTW2:=qA htw2;obtain ⟨ad,ead,hcell⟩:=Kd.at_int (Kd.C_below HR0.out HB.out) (i:Int) (by omega) (by omega);subst ead;rw [Int.toNat_natCast] at hcell;generalize rd l0 (i:Int)=x at hcell HINS;obtain ⟨Ar,cr,er⟩:=Kd.S_slice HR.out;subst er;obtain ⟨At,ct,et⟩:=Kd.S_slice HT.out;subst et;clear hl hins hcnd htw2 HL
    go_upto_region 7 with (first
     |(go_at_call 115;(refine (spec_l5Insert.calls k Ar cr rs x rs2 jt _ ?side1 ?side2 HINS.out).mono ?_);(case side1=>repeat (first|exact (Kd.S_reads' HR.out).2.2|(with_reducible refine Kd.C_alloc ?_ _)|(with_reducible refine Kd.C_drewN ?_ _)|(with_reducible refine Kd.C_drew ?_)));(case side2=>exact (Kd.S_reads' HR.out).2.1);rintro e w5 ⟨vr,rfl,ho,hb⟩;have HBC:=qA hb;have HRN:=qA ho;clear ho hb))
    obtain ⟨N1,hN1⟩:∃ N1,N1=wr.heap.size:=⟨_,rfl⟩
    obtain ⟨N2,hN2⟩:∃ N2,N2=w5.heap.size:=⟨_,rfl⟩
    have hn1:w.heap.size≤N1:=by rw [hN1];exact below_size HB.out
    have n0_:=qA (show Kd.S (Kd.slice 3 (Kd.int .i64)) 36 w5 w.heap.size (fun k_=>N1≤k_∧k_ < N2) vr rs2 from Kd.S_lower (Kd.S_mono (Kd.S_bound HRN.out) (fun k_ hk=>⟨(by rw [hN1];exact hk.2.1),(by rw [hN2];exact hk.2.2.1)⟩)) (below_size HB.out));have n1_:=qA (show Kd.S (Kd.slice 3 (Kd.int .i64)) 36 w5 w.heap.size (fun k_=>¬ (N1≤k_∧k_ < N2)) (.slice At tw.length ct) tw from Kd.S_mono (Kd.S_old HT.out HBC.out) (fun k_ hk h_=>absurd h_.1 (by rw [hN1];exact Nat.not_le.2 hk.2)));have n2_:=qA (below_step HB.out HBC.out);have HN2:=qA (Nat.le_of_eq hN2);clear HR HT HB HRN HBC hN1 hN2 hn1 hcell;have HR:=n0_;have HT:=n1_;have HB:=n2_;clear n0_ n1_ n2_;by_cases hjt:jt=(tw.length:Int)
    ·have hjb:(jt==(tw.length:Int))=true:=beq_iff_eq.2 hjt;have htw3:tw2=tw++[[]]:=by rw [HTW2.out];unfold twL;rw [if_pos hjt]
     obtain ⟨ye,hye⟩:∃ ye:List Int,ye=[]:=⟨_,rfl⟩
     rw [← hye] at htw3;have HTW3:=qA htw3;have HYE:=qA hye;clear htw3 hye hjt
     go_upto_region 9 with (first
      |((with_reducible refine gate_dst (N:=32) rfl ?_);refine Kd.R_lit (Kd.int .i64) _ 3 ?hg (N:=32) ?hd (xs:=([]:List Int)) (inner:=[]) (ok:=fun _=>True) (okp:=fun _=>True) ?hr ?hp (fun _ hk=>hk) trivial (Below.refl _ _) (Nat.le_refl _) (by simp) ?_;(case hd=>rfl);(case hg=>rfl);(case hr=>first|(go_simp;done)|(go_simp;rfl));(case hp=>exact (Reps.none _ _));intro v160 w15 ho16 hb hg_ hnew_;(rw [← HYE.out] at ho16);have n0_:=qA (Kd.S_elder' (by (with_reducible repeat (first|apply Kd.S_alloc|apply Kd.S_drewN|apply Kd.S_drew));exact HT.out) (Kd.R_base ho16) hb);have n1_:=qA (Kd.R_lower (Kd.R_mono (ok':=(fun k_=>¬ (N1≤k_∧k_ < N2))) (Kd.R_bound ho16) (fun k_ hk h_=>absurd h_.2 (by have:=hk.2.1;have:=HN2.out;omega))) (below_size qy33));have n2_:=qA (below_step qy33 hb);have n3_:=qA (Kd.S_below qy66 hb);have n4_:=qA (Nat.le_trans HN2.out hb.size);clear HT HB HR HN2;have HT:=n0_;have HE:=n1_;have HB:=n2_;have HR:=n3_;have HN2:=n4_;clear n0_ n1_ n2_ n3_ n4_;clear hb ho16 hg_ hnew_;obtain ⟨Ao18,co18,eo18⟩:=Kd.R_slice HE.out;subst eo18)
      |((with_reducible refine gate_builtin (b:=.append) (xs:= #[.tmp 31,.tmp 33]) rfl ?_);at_builtin;refine Kd.S_append (Kd.slice 3 (Kd.int .i64)) (w0:=w) w.heap.size rfl (.tmp 31) (.tmp 33) 32 36 (.slice none 0 0) 24 rfl Tryz.underlying32 info36 rfl (by decide) (by omega) (.slice At tw.length ct) tw ye [.slice Ao18 ye.length co18] (fun k_=>¬ (N1≤k_∧k_ < N2)) (fun k_=>some k_=(.slice Ao18 ye.length co18:Value).ownBlock) rfl rfl ?aP ?aK ?aF ?aO ?aB ?aS ?aL ?_;(case aK=>exact (fun k_ hk_=>(Kd.R_apart' HE.out (Kd.S_typed HT.out) (by decide)).1 k_ hk_.symm));(case aP=>exact Kd.M_row (Kd.R_mono (Kd.R_tight rfl (Kd.R_apart' HE.out (Kd.S_typed HT.out) (by decide))) (fun _ h_=>h_)));(case aB=>exact qy33);(case aF=>exact (fun k_ hk h_=>absurd h_.2 (by have:=HN2.out;omega)));(case aO=>exact (by (with_reducible repeat (first|apply Kd.S_alloc|apply Kd.S_drewN|apply Kd.S_drew));exact Kd.S_mono HT.out (fun k_ hk=>⟨hk.1,fun e_=>hk.2 e_⟩)));(case aS=>exact (below_size qy33));(case aL=>have:=HTL.out;omega);intro v163 w17 ho hb hg hat;rw [← HTW3.out] at ho;obtain ⟨Aw,cw,ew⟩:=Kd.S_slice ho;subst ew;have n0_:=qA (hb);have n1_:=qA (ho);have n2_:=qA (Kd.S_grown qy66 hg (fun k_ hk e_=>(HT.out.choose_spec.1 k_ e_.symm).1 hk));have n3_:=qA (Nat.le_trans HN2.out (by first|exact hg.size|(have h_:=hg.size;rw [World.size_alloc] at h_;omega)));clear HB HT HE HR HN2;have HB:=n0_;have HT:=n1_;have HR:=n2_;have HN2:=n3_;clear n0_ n1_ n2_ n3_;clear ho hb hg hat))
     obtain ⟨WA,hWA⟩:∃ WA:World,WA=w17:=⟨_,rfl⟩
     subst hWA;have hj1:decide (0≤jt)=true:=decide_eq_true HJ.out.1;have hj2:decide (jt < (tw2.length:Int))=true:=decide_eq_true HJ.out.2.1;have pj:=eq_true HJ.out.1;have qj:=eq_true HJ.out.2.1;obtain ⟨go,co,eo,gb,gl,cl,hg0⟩:=Kd.S_form HT.out (by have:=HJ.out;omega);cases eo;have GB:=qA gb;have HGO:=qA (show ¬ (N1≤go∧go < N2) from HT.out.choose_spec.1 go rfl);clear gb gl hg0 cl;obtain ⟨oki,ce,hcl,hM,hcc,hfr,hoki,hH⟩:=Kd.S_elem HT.out [] jt HJ.out.1 HJ.out.2.1;obtain ⟨ve,rfl,ge⟩:=hM;obtain ⟨Ae,cap,rfl⟩:=Kd.R_slice ge;have hx0:=hcc 0 _ rfl;rw [Nat.add_zero,show (Kd.slice 3 (Kd.int .i64)).sz=1 from rfl,Nat.mul_one] at hx0
     obtain ⟨el,hel⟩:∃ el,el=tw2.getD jt.toNat []:=⟨_,rfl⟩
     have hlim:el.length < 1000:=by rw [hel];exact HJ.out.2.2
     rw [← hel] at ge hx0 hH hcc;have HEL:=qA hel;have HLIM:=qA hlim;have UU:=qA ge;have HH:=qA hH;have HOKI:=qA hoki;have HN:=qA (Kd.S_reads' HT.out).1;have E1:=qA (show wrap64 ((i:Int)+1)=((i+1:Nat):Int) by have:=HLL.out;have:=HK.out;unfold wrap64;omega)
     obtain ⟨nw,hnw⟩:∃ nw,nw=el++[wrap64 ((i:Int)+1)]:=⟨_,rfl⟩
     have HNW:=qA hnw;clear ge hH hoki hcc hfr hcl hel hlim hnw
     go_wp2_with (first
      |((with_reducible refine gate_builtin (b:=.append) (xs:= #[.tmp 40,.tmp 43]) rfl ?_);at_builtin;refine Kd.R_append (Kd.int .i64) (w0:=w) w.heap.size rfl (.tmp 40) (.tmp 43) 36 3 (.int .i64 0) 8 rfl Tryz.underlying36 info3 rfl (by decide) (by omega) (.slice Ae el.length cap) el (wrap64 ((i:Int)+1)) [.int .i64 (wrap64 ((i:Int)+1))] (fun k_=>oki k_∨((fun k_=>¬ (N1≤k_∧k_ < N2))) k_∧WA.heap.size≤k_) (fun _=>False) rfl rfl ?aP (fun _ hk=>hk.elim) ?aF ?aO ?aB ?aS ?aL ?_;(case aP=>exact rfl);(case aB=>exact qy33);(case aF=>exact (fun k_ hk=>.inr ⟨fun h_=>absurd h_.2 (by have:=HN2.out;omega),hk⟩));(case aO=>exact (by (with_reducible repeat (first|apply Kd.R_alloc|apply Kd.R_drewN|apply Kd.R_drew));exact Kd.R_mono UU.out (fun _ hk=>.inl hk)));(case aS=>exact (below_size qy33));(case aL=>have:=HLIM.out;omega);intro v183 w40 ho hb hg hat;rw [← HNW.out] at ho;have n0_:=qA (hb);have n1_:=qA (Kd.H_grown (Kd.H_widen (by repeat (first|exact HH.out|refine Kd.H_alloc ?_ _|refine Kd.H_drewN ?_ _|refine Kd.H_drew ?_))) hg (fun k_ e_=>.inl (UU.out.1 k_ e_)));have n2_:=qA (ho);have n3_:=qA (Kd.S_grown qy66 hg (fun k_ hk e_=>(HOKI.out _ (UU.out.1 k_ e_.symm)).1 hk));clear HB HH HT UU HR;have HB:=n0_;have HH:=n1_;have HU2:=n2_;have HR:=n3_;clear n0_ n1_ n2_ n3_;clear ho hb hg hat;obtain ⟨Ao,cn,eo⟩:=Kd.R_slice HU2.out;subst eo;obtain ⟨_,_,hraw,_,_,hcc,_⟩:=Kd.H_raw HH.out HJ.out.1 qy69;obtain ⟨_,hfr⟩:=Kd.H_at HH.out HJ.out.1 qy69;have hx1:=hcc 0 _ rfl;have hf1:=hfr 0;(try simp only [Nat.add_zero] at hx1 hf1);(try rw [show (Kd.slice 3 (Kd.int .i64)).sz=1 from rfl,Nat.mul_one] at hx1);(try rw [show (Kd.slice 3 (Kd.int .i64)).sz=1 from rfl,Nat.mul_one] at hf1);have HP:=Kd.S_seg0 HH.out HJ.out.1 qy69 (seg:=[.slice Ao nw.length cn]) (j:=0) (show 1≤1 from by decide) (x':=nw) (Kd.M_row HU2.out) (fun _ hk=>hk);(try simp only [show (Kd.slice 3 (Kd.int .i64)).sz=1 from rfl,Nat.mul_one,Nat.add_zero] at HP);clear hcc hfr hraw))
     go_roundg k1
     case measure=>omega
     case rel=>exact ⟨i+1,rs2,tw2.set jt.toNat nw,(by first|rfl|rw [E1.out]),⟨by have:=HK.out;omega⟩,⟨(by have h_:=HL2.out;rw [← HEL.out,← E1.out,← HNW.out] at h_;exact h_)⟩,⟨Kd.S_mono (Kd.S_far (p:=⟨go,jt.toNat,none⟩) HR.out (fun k_ hk e_=>HGO.out (by rw [show k_=go from e_] at hk;exact hk)) _) (fun _ _=>trivial)⟩,⟨Kd.S_mono HP.1 (fun _ _=>trivial)⟩,⟨below_set HB.out GB.out⟩⟩
    ·have hjb:(jt==(tw.length:Int))=false:=beq_eq_false_iff_ne.2 hjt;have htw3:tw2=tw:=by rw [HTW2.out];unfold twL;rw [if_neg hjt]
     subst htw3;clear hjt
     go_upto_region 9 with fail
     obtain ⟨WA,hWA⟩:∃ WA:World,WA=w5:=⟨_,rfl⟩
     subst hWA;have hj1:decide (0≤jt)=true:=decide_eq_true HJ.out.1;have hj2:decide (jt < (tw2.length:Int))=true:=decide_eq_true HJ.out.2.1;have pj:=eq_true HJ.out.1;have qj:=eq_true HJ.out.2.1;obtain ⟨go,co,eo,gb,gl,cl,hg0⟩:=Kd.S_form HT.out (by have:=HJ.out;omega);cases eo;have GB:=qA gb;have HGO:=qA (show ¬ (N1≤go∧go < N2) from HT.out.choose_spec.1 go rfl);clear gb gl hg0 cl;obtain ⟨oki,ce,hcl,hM,hcc,hfr,hoki,hH⟩:=Kd.S_elem HT.out [] jt HJ.out.1 HJ.out.2.1;obtain ⟨ve,rfl,ge⟩:=hM;obtain ⟨Ae,cap,rfl⟩:=Kd.R_slice ge;have hx0:=hcc 0 _ rfl;rw [Nat.add_zero,show (Kd.slice 3 (Kd.int .i64)).sz=1 from rfl,Nat.mul_one] at hx0
     obtain ⟨el,hel⟩:∃ el,el=tw2.getD jt.toNat []:=⟨_,rfl⟩
     have hlim:el.length < 1000:=by rw [hel];exact HJ.out.2.2
     rw [← hel] at ge hx0 hH hcc;have HEL:=qA hel;have HLIM:=qA hlim;have UU:=qA ge;have HH:=qA hH;have HOKI:=qA hoki;have HN:=qA (Kd.S_reads' HT.out).1;have E1:=qA (show wrap64 ((i:Int)+1)=((i+1:Nat):Int) by have:=HLL.out;have:=HK.out;unfold wrap64;omega)
     obtain ⟨nw,hnw⟩:∃ nw,nw=el++[wrap64 ((i:Int)+1)]:=⟨_,rfl⟩
     have HNW:=qA hnw;clear ge hH hoki hcc hfr hcl hel hlim hnw
     go_wp2_with (first
      |((with_reducible refine gate_builtin (b:=.append) (xs:= #[.tmp 40,.tmp 43]) rfl ?_);at_builtin;refine Kd.R_append (Kd.int .i64) (w0:=w) w.heap.size rfl (.tmp 40) (.tmp 43) 36 3 (.int .i64 0) 8 rfl Tryz.underlying36 info3 rfl (by decide) (by omega) (.slice Ae el.length cap) el (wrap64 ((i:Int)+1)) [.int .i64 (wrap64 ((i:Int)+1))] (fun k_=>oki k_∨((fun k_=>¬ (N1≤k_∧k_ < N2))) k_∧WA.heap.size≤k_) (fun _=>False) rfl rfl ?aP (fun _ hk=>hk.elim) ?aF ?aO ?aB ?aS ?aL ?_;(case aP=>exact rfl);(case aB=>exact qy33);(case aF=>exact (fun k_ hk=>.inr ⟨fun h_=>absurd h_.2 (by have:=HN2.out;omega),hk⟩));(case aO=>exact (by (with_reducible repeat (first|apply Kd.R_alloc|apply Kd.R_drewN|apply Kd.R_drew));exact Kd.R_mono UU.out (fun _ hk=>.inl hk)));(case aS=>exact (below_size qy33));(case aL=>have:=HLIM.out;omega);intro v183 w40 ho hb hg hat;rw [← HNW.out] at ho;have n0_:=qA (hb);have n1_:=qA (Kd.H_grown (Kd.H_widen (by repeat (first|exact HH.out|refine Kd.H_alloc ?_ _|refine Kd.H_drewN ?_ _|refine Kd.H_drew ?_))) hg (fun k_ e_=>.inl (UU.out.1 k_ e_)));have n2_:=qA (ho);have n3_:=qA (Kd.S_grown qy66 hg (fun k_ hk e_=>(HOKI.out _ (UU.out.1 k_ e_.symm)).1 hk));clear HB HH HT UU HR;have HB:=n0_;have HH:=n1_;have HU2:=n2_;have HR:=n3_;clear n0_ n1_ n2_ n3_;clear ho hb hg hat;obtain ⟨Ao,cn,eo⟩:=Kd.R_slice HU2.out;subst eo;obtain ⟨_,_,hraw,_,_,hcc,_⟩:=Kd.H_raw HH.out HJ.out.1 qy69;obtain ⟨_,hfr⟩:=Kd.H_at HH.out HJ.out.1 qy69;have hx1:=hcc 0 _ rfl;have hf1:=hfr 0;(try simp only [Nat.add_zero] at hx1 hf1);(try rw [show (Kd.slice 3 (Kd.int .i64)).sz=1 from rfl,Nat.mul_one] at hx1);(try rw [show (Kd.slice 3 (Kd.int .i64)).sz=1 from rfl,Nat.mul_one] at hf1);have HP:=Kd.S_seg0 HH.out HJ.out.1 qy69 (seg:=[.slice Ao nw.length cn]) (j:=0) (show 1≤1 from by decide) (x':=nw) (Kd.M_row HU2.out) (fun _ hk=>hk);(try simp only [show (Kd.slice 3 (Kd.int .i64)).sz=1 from rfl,Nat.mul_one,Nat.add_zero] at HP);clear hcc hfr hraw))
     go_roundg k1
     case measure=>omega
     case rel=>exact ⟨i+1,rs2,tw2.set jt.toNat nw,(by first|rfl|rw [E1.out]),⟨by have:=HK.out;omega⟩,⟨(by have h_:=HL2.out;rw [← HEL.out,← E1.out,← HNW.out] at h_;exact h_)⟩,⟨Kd.S_mono (Kd.S_far (p:=⟨go,jt.toNat,none⟩) HR.out (fun k_ hk e_=>HGO.out (by rw [show k_=go from e_] at hk;exact hk)) _) (fun _ _=>trivial)⟩,⟨Kd.S_mono HP.1 (fun _ _=>trivial)⟩,⟨below_set HB.out GB.out⟩⟩
   ·obtain rfl:i=l0.length:=by have:=HK.out;omega
    have hd1:decide ((l0.length:Int) < (l0.length:Int))=false:=decide_eq_false (by omega);have hl:=HL.out;rw [List.drop_length] at hl;have h':=Option.some.inj hl;simp only [Prod.mk.injEq] at h';obtain ⟨rfl,rfl⟩:=h';clear hl
    go_wp2
    go_ret2;exact ⟨_,_,rfl,HR.out,HT.out,HB.out⟩
 ·rw [if_neg hll] at h;cases h

end Go.Proofs.YtaoecbpfocillaaGreat.Xdz
