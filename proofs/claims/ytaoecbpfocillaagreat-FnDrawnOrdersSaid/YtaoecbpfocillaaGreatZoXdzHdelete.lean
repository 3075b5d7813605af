/- slices.Delete at []int, of one element, in place; impl.orderAt by it. -/
import Derived.Test.YtaoecbpfocillaaGreatZoXdz0
import Derived.Test.YtaoecbpfocillaaGreatZoXdz6
import Derived.OneCell
import Derived.Lib.SliceRun
import Derived.Deep.RegionHeld3
import Derived.Outline
namespace Go.Proofs.YtaoecbpfocillaaGreat.Xdz
open Go.RowKit Go.Proofs.YtaoecbpfocillaaGreatW.PrintWords Go.Proofs.YtaoecbpfocillaaGreatW.PrintLast Go.Proofs.YtaoecbpfocillaaGreatW.PrintMore
attribute [local go_sem] max2_int min2_int max_two min_two max_three min_three max_four min_four
set_option linter.unusedVariables false
set_option linter.unusedSimpArgs false
/-- A row's first part stays where what lies behind it is written. -/
theorem own_clear_int {w:World} {base e b n c i:Nat} {xs vs:List Value} (h:w.ownsRow base e 1 (.slice (some ⟨b,0,none⟩) n c) n xs) (hi:i≤n) (hv:i+vs.length≤c) (hni:n≤i):
    (w.setCells b i vs).ownsRow base e 1 (.slice (some ⟨b,0,none⟩) n c) n xs∧w.grownBy (w.setCells b i vs) (some b):=by
  obtain rfl:i=n:=by omega
  obtain ⟨hl,h⟩:=h
  rcases h with ⟨hx,_⟩|⟨g,cap,cur,hx,hb,hh,hnc,hcm,hcs,ht⟩
  · cases hx
  · injection hx with ha _ hc
    injection ha with ha
    injection ha with hg
    subst hg;subst hc;obtain ⟨cur',h3,h4,h5⟩:=setCells_row vs i w cur hh (by omega);obtain ⟨s1,s2,s3,s4⟩:=setCells_same b vs i w;refine ⟨⟨hl,.inr ⟨b,c,cur',rfl,hb,h3,by omega,hcm,by omega,?_⟩⟩,⟨s1,s2,s3,by rw [s4];exact Nat.le_refl _,fun k _ hk=>setCells_far vs i k (fun e=>hk (by rw [e]))⟩⟩;rw [h5,← ht,Nat.mul_one,List.append_assoc];exact List.take_left' (by rw [List.length_take,Array.length_toList];omega)
theorem own_of_len {w:World} {base e n m:Nat} {v:Value} {xs:List Value} (h:w.ownsRow base e 1 v m xs) (hn:m=n):w.ownsRow base e 1 v n xs:=hn ▸ h
/-- A row's cells, those behind its length too, are there and may be written. -/
theorem own_there {w:World} {base e b n c:Nat} {xs:List Value} (h:w.ownsRow base e 1 (.slice (some ⟨b,0,none⟩) n c) n xs) (j:Nat) (hj:j < c):(w.cell? ⟨b,j,none⟩).isSome=true∧w.frozen? ⟨b,j,none⟩=false:=by
  obtain ⟨hl,h⟩:=h
  rcases h with ⟨hx,_⟩|⟨g,cap,cur,hx,hb,hh,hnc,hcm,hcs,ht⟩
  · cases hx
  · injection hx with ha _ hc
    injection ha with ha
    injection ha with hg
    subst hg;subst hc;refine ⟨?_,blk_frozen hh j⟩;rw [blk_cell hh];have:j < cur.size:=by omega
    simp [this]
set_option maxHeartbeats 8000000 in
set_option maxRecDepth 100000 in
theorem Delete_one (b c k:Nat) (l:List Int) (w0 w:World) (ok:Nat→Prop)
    (ho:Kd.R (Kd.int .i64) 3 w w0.heap.size ok (.slice (some ⟨b,0,none⟩) l.length c) l) (hB:Below w0.heap.size w0 w) (hk:k < l.length):
    Calls Tryz.prog 166 #[.slice (some ⟨b,0,none⟩) l.length c,.int .i64 (k:Int),.int .i64 ((k+1:Nat):Int)] w fun e w'=>e=.returned (.slice (some ⟨b,0,none⟩) (l.length - 1) c)∧Kd.R (Kd.int .i64) 3 w' w0.heap.size ok (.slice (some ⟨b,0,none⟩) (l.length - 1) c) (l.eraseIdx k)∧Below w0.heap.size w0 w'∧w.grownBy w' (some b):=by
  obtain ⟨_,hnc,hC⟩:=Kd.R_reads' ho;have hmax:=Kd.C_max hC;have hbase:w0.heap.size≤b:=Kd.R_base ho b rfl
  obtain ⟨n,hn⟩:∃ n:Nat,n=l.length:=⟨_,rfl⟩
  rw [← hn] at ho hk hnc hmax ⊢;have HO:=qA ho;have HB:=qA hB;have HM:=qA hmax;have HNC:=qA hnc;have HBA:=qA hbase;have HN:=qA hn;clear ho hB hmax hnc hC hbase hn;have hkc:k+1≤c:=by have:=HNC.out;omega
  have hnc2:n≤c:=HNC.out;have hk1:k+1≤n:=hk;have hne:((k:Int)==((k+1:Nat):Int))=false:=beq_eq_false_iff_ne.2 (by omega);obtain ⟨i0,hi0,_,hsz0,_⟩:=info_parts info3
  have hcA:∀ W:World,(Instr.slice 36 (.slice (some ⟨b,0,none⟩) n c) none (some (.int .i64 (k:Int))) none).run Tryz.prog W=.ok (.slice (some ⟨b,0,none⟩) k c) W:=fun W=>by
    have h_:=cut_to (P:=Tryz.prog) 36 3 .i64 Tryz.underlying36 hi0 (some ⟨b,0,none⟩) n c (k:Int) (by omega) (by omega) hnc2 W
    rwa [Int.toNat_natCast] at h_
  obtain ⟨A2,hA2,hcB⟩:∃ A2:Option Addr,A2=(if c=k+1 then some ⟨b,0,none⟩ else (some (⟨b,0,none⟩:Addr)).map (·.add ((k+1)*1)))∧∀ W:World,(Instr.slice 36 (.slice (some ⟨b,0,none⟩) n c) (some (.int .i64 ((k:Int)+1))) none none).run Tryz.prog W=.ok (.slice A2 (n - (k+1)) (c - (k+1))) W:=⟨_,rfl,fun W=>by
    have h_:=cut_from (P:=Tryz.prog) 36 3 .i64 Tryz.underlying36 hi0 1 hsz0 (some ⟨b,0,none⟩) n c ((k:Int)+1) (by omega) (by omega) W
    rwa [show ((k:Int)+1).toNat=k+1 by omega] at h_⟩
  have HA2:=qA hA2;clear hA2 hi0 hsz0;go_enter Tryz.func166,Tryz.ntmps166
  go_wp2
  have hinfo:(Tryz.prog.info? 3).map (·.size)=some (Kd.int .i64).sz:=by kernel_rfl
  have hcap:¬ c < k:=by omega
  have hHB:=HB.out.size
  go_region_held3 (fun _=>True) (trivial) ((refine Kd.R_delete_step (Kd.int .i64) (w0:=w0) w0.heap.size (by rfl) (.tmp 22) (.tmp 25) 36 3 (by rfl) Tryz.underlying36 hinfo (g:=b) (n:=n) (c:=c) (k:=k) (xs:=l) (ok:=ok) (by rfl) (by rfl) HA2.out rfl (Kd.R_drew HO.out) hk (below_drew HB.out) hHB ?_;intro w2 ho2 hb2 hg2))
  have HO2:=qA ho2;have HB2:=qA hb2;have HG2:=qA (show w.grownBy w2 (some b) from ⟨hg2.os,hg2.tape,hg2.output,hg2.size,hg2.block⟩);have hr:=own_of_len (Kd.own_of_R ho2) (show (l.eraseIdx k).length=n - 1 by rw [List.length_eraseIdx_of_lt (by have:=HN.out;omega)];have:=HN.out;omega);have HR:=qA hr;clear ho2 hb2 hg2 hr;have hzs:∀ w:World,(zeroValue 3).run Tryz.prog w=.ok (.int .i64 0) w:=fun _=>by kernel_rfl
  have hcl:∀ ty,(Builtin.clear_ #[36] ty #[.slice (some ⟨b,n - 1,none⟩) (n - (n - 1)) (c - (n - 1))]).run Tryz.prog w2=.ok (.tuple #[]) (w2.setCells b (n - 1) (List.replicate (n - (n - 1)) (.int .i64 0))):=fun ty=>
    Lib.run_clear_slice w2 _ _ ty _ Tryz.underlying36 hzs rfl rfl b (n - 1) _ _ (by omega)
      (fun q hq=>(own_there HR.out (n - 1+q) (by have:=HNC.out;omega)).1) (fun q hq=>(own_there HR.out (n - 1+q) (by have:=HNC.out;omega)).2)
  go_wp2
  go_ret;obtain ⟨h1,h2⟩:=own_clear_int (i:=n - 1) (vs:=List.replicate (n - (n - 1)) (.int .i64 0)) HR.out (Nat.le_refl _) (by rw [List.length_replicate];have:=HNC.out;omega) (Nat.le_refl _);have hel:(l.eraseIdx k).length=n - 1:=by rw [List.length_eraseIdx_of_lt (by have:=HN.out;omega)];have:=HN.out;omega
  exact ⟨rfl,Kd.R_of_own (own_of_len h1 hel.symm) (fun q hq=>HO2.out.1 q hq),HB2.out.grown h2 HB2.out.size (fun q hq=>by injection hq with hq;subst hq;exact HBA.out),HG2.out.trans h2⟩
def impl_orderAt.l0 (k:Nat):Nat→Int→List Int→List Int→Option (List Int)
  |0,_,_,_=>none
  |n+1,kk,left,out=>if 0 < left.length then (impl_factorial.f k (wrap64 ((left.length:Int) - 1))).bind fun p=>if p=0 then none else if 0≤wrap64 (Int.tdiv kk p)∧wrap64 (Int.tdiv kk p) < (left.length:Int)∧out.length < 1000 then impl_orderAt.l0 k n (Int.tmod kk p) (left.eraseIdx (wrap64 (Int.tdiv kk p)).toNat) (out++[rd left (wrap64 (Int.tdiv kk p))]) else none else some out
def impl_orderAt.f (k:Nat) (a0:Int) (a1:Int):Option (List Int):=(impl_sorted.f k a0).bind fun left=>if 0 < left.length then impl_orderAt.l0 k (left.length+1) a1 left [] else none
set_option maxHeartbeats 8000000 in
set_option maxRecDepth 100000 in
theorem impl_orderAt.calls (k:Nat) (a0:Int) (a1:Int) (r:List Int) (w:World) (h:impl_orderAt.f k a0 a1=some r):
    Calls Tryz.prog 149 #[.int .i64 a0,.int .i64 a1] w fun e w'=>∃ v0_:Value,e=.returned (v0_)∧Kd.R (Kd.int .i64) 3 w' w.heap.size (fun _=>True) v0_ r∧Below w.heap.size w w':=by
  obtain ⟨l,hl,h⟩:=Option.bind_eq_some_iff.1 h
  have hlen:0 < l.length:=by
    rcases Nat.lt_or_ge 0 l.length with h0|h0
    · exact h0
    · rw [if_neg (by omega)] at h;cases h
  rw [if_pos hlen] at h;have HL:=qA hl;have H:=qA h;have HN:=qA hlen;clear hl h hlen;go_enter Tryz.func149,Tryz.ntmps149
  go_wp2_with (first
    |(go_at_call 91;(refine (impl_sorted.calls k a0 l _ HL.out).mono ?_);rintro e w6 ⟨v6,rfl,ho,hb⟩;obtain ⟨b,c,e6,hbase,hg6,_⟩:=Kd.R_form ho HN.out;subst e6;have HO:=qA ho;have HB:=qA hb;have HG:=qA hg6;have HBA:=qA hbase;clear ho hb hg6 hbase)
    |((with_reducible refine gate_dst (N:=11) rfl ?_);refine Kd.R_lit (Kd.int .i64) (w0:=w) w.heap.size 3 ?hg (N:=11) ?hd (xs:=([]:List Int)) (inner:=[]) (ok:=fun q=>q≠b) (okp:=fun _=>False) ?hr ?hp (fun _ hk=>hk.elim) (by have:=HG.out;omega) HB.out HB.out.size (by simp) ?_;(case hd=>rfl);(case hg=>rfl);(case hr=>first|(go_simp;done)|(go_simp;rfl));(case hp=>exact (Reps.none _ _));intro v11 w7 ho7 hb7 hg7 hnew_;have HO7:=qA ho7;have HB7:=qA hb7;have HO6:=qA (Kd.R_grown1 HO.out rfl hg7 (by simp [Value.ownBlock]));have HG7:=qA (Nat.lt_of_lt_of_le HG.out hg7.size);clear ho7 hb7 hg7 hnew_ HO HB HG))
  go_loopg [1,5,6] (l.length+1) (fun kq v1 v5 v6 w'=>∃ (kk:Int) (left out:List Int),v1=.int .i64 kk∧v5=.slice (some ⟨b,0,none⟩) left.length c∧Aside0 (impl_orderAt.l0 k kq kk left out=some r)∧Aside0 (Kd.R (Kd.int .i64) 3 w' w.heap.size (fun _=>True) (.slice (some ⟨b,0,none⟩) left.length c) left)∧Aside0 (Kd.R (Kd.int .i64) 3 w' w.heap.size (fun q=>q≠b) v6 out)∧Aside0 (Below w.heap.size w w')∧Aside0 (b < w'.heap.size))
  case atStart=>exact ⟨a1,l,[],rfl,rfl,H,HO6,HO7,HB7,HG7⟩
  case round=>
    clear H HO6 HO7 HB7 HG7 HN;obtain ⟨kk,left,out,rfl,rfl,H,HO,HV,HB,HG⟩:=hrel
    cases gk with
    |zero=>exact absurd H.out (by simp [impl_orderAt.l0])
    |succ k1=>
      have h:=H.out;clear H;rw [impl_orderAt.l0] at h;by_cases hlen:0 < left.length
      · rw [if_pos hlen] at h;obtain ⟨p,hp,h⟩:=Option.bind_eq_some_iff.1 h;have HP:=qA hp;clear hp;by_cases hp0:p=0
        · rw [if_pos hp0] at h;cases h
        · rw [if_neg hp0] at h;have hpb:(p==0)=false:=beq_eq_false_iff_ne.2 hp0;have HP0:=qA hp0
          obtain ⟨q,hq⟩:∃ q,wrap64 (Int.tdiv kk p)=q:=⟨_,rfl⟩
          rw [hq] at h;have hqw:IntKind.i64.wrap (Int.tdiv kk p)=q:=(i64_w _).trans hq;have HQ:=qA hq;by_cases hc:0≤q∧q < (left.length:Int)∧out.length < 1000
          · rw [if_pos hc] at h;obtain ⟨c1,c2,c3⟩:=hc;have H:=qA h;have C3:=qA c3;obtain ⟨hl0,hlc,hC⟩:=Kd.R_reads' HO.out;have hmax:=Kd.C_max hC;have HM:=qA hmax;obtain ⟨ad,hA,cq⟩:=Kd.at_int hC q c1 c2;injection hA with hA
            subst hA;rw [add_plain] at cq;have d1:decide (0≤q)=true:=decide_eq_true c1;have d2:decide (q < (left.length:Int))=true:=decide_eq_true c2;have C1:=qA c1;have C2:=qA c2;have hql:q.toNat < left.length:=by omega
            have HQL:=qA hql
            have HAR:Aside0 ((#[.slice (some ⟨b,0,none⟩) left.length c,.int .i64 q,.int .i64 (wrap64 (q+1))]:Array Value)= #[.slice (some ⟨b,0,none⟩) left.length c,.int .i64 (q.toNat:Int),.int .i64 ((q.toNat+1:Nat):Int)]):=⟨by
              rw [show (q.toNat:Int)=q by omega,show wrap64 (q+1)=((q.toNat+1:Nat):Int) by unfold wrap64;omega]⟩
            have HEL:=qA (show left.length - 1=(left.eraseIdx q.toNat).length by rw [List.length_eraseIdx_of_lt hql]);clear hql;clear h hl0 hlc hC hmax c3 hq
            go_wp2_with (first
              |(go_at_call 141;(with_reducible refine (impl_factorial.calls k _ p _ HP.out).mono ?_);rintro e w8 ⟨rfl,⟨nd,rfl⟩⟩)
              |(at_builtin;refine Kd.R_append (Kd.int .i64) (w0:=w) w.heap.size rfl (.tmp 25) (.tmp 30) 36 3 (.int .i64 0) 8 rfl Tryz.underlying36 info3 rfl (by decide) (by omega) u6 out (rd left q) [.int .i64 (rd left q)] (fun q=>q≠b) (fun _=>False) rfl rfl ?aP (fun _ hk=>hk.elim) ?aF ?aO ?aB ?aS ?aL ?_;(case aP=>exact rfl);(case aO=>exact Kd.R_drewN HV.out _);(case aB=>exact pw_below_drewN HB.out _);(case aF=>exact fun k_ hk_=>by have:=HG.out;have hk_:wr.heap.size≤k_:=hk_;omega);(case aS=>exact HB.out.size);(case aL=>have:=C3.out;omega);intro v31 w9 ho9 hb9 hg9 hat9;have HV9:=qA ho9;have HB9:=qA hb9;have HO9:=qA (Kd.R_grown1 (Kd.R_drewN HO.out nd) rfl hg9 (fun e_=>Kd.R_away HV.out (g:=b) (fun k_ hk_=>hk_) e_.symm));have HG9:=qA (Nat.lt_of_lt_of_le HG.out hg9.size);clear ho9 hb9 hg9 hat9)
              |(go_at_call 166;(refine (calls_of_args HAR.out (Delete_one b c q.toNat left w w9 _ HO9.out HB9.out HQL.out)).mono ?_);rintro e w10 ⟨rfl,ho10,hb10,hg10⟩;have HO10:=qA ho10;have HB10:=qA hb10;have HV10:=qA (Kd.R_grown1 HV9.out rfl hg10 (Kd.R_away HV9.out (g:=b) (fun k_ hk_=>hk_)));have HG10:=qA (Nat.lt_of_lt_of_le HG9.out hg10.size);clear ho10 hb10 hg10))
            go_roundg k1
            case measure=>omega
            case rel=>exact ⟨Int.tmod kk p,left.eraseIdx q.toNat,out++[rd left q],rfl,by rw [HEL.out],H,⟨by rw [← HEL.out];exact HO10.out⟩,HV10,HB10,HG10⟩
          · rw [if_neg hc] at h;cases h
      · rw [if_neg hlen] at h;obtain rfl:=Option.some.inj h
        go_wp2
        go_ret;exact ⟨_,rfl,Kd.R_mono HV.out (fun _ _=>trivial),HB.out⟩

end Go.Proofs.YtaoecbpfocillaaGreat.Xdz
