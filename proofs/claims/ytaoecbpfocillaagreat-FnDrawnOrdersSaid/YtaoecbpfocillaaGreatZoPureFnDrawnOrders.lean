/- FnDrawnOrders: what is drawn of all orders holds together, and the program and the reference tell the same. -/
import Derived.Test.YtaoecbpfocillaaGreatZoXdzHdz
import Derived.Test.YtaoecbpfocillaaGreatZoXdz2
import Derived.Test.YtaoecbpfocillaaGreatZoXdz15
import Derived.Test.YtaoecbpfocillaaGreatZoXdz21
import Derived.Test.YtaoecbpfocillaaGreatZoXdz22
import Derived.Test.YtaoecbpfocillaaGreatZoXdz18
import Derived.Test.YtaoecbpfocillaaGreatZoXdz17
import Derived.Test.YtaoecbpfocillaaGreatZoXdzHpattern3
import Derived.Test.YtaoecbpfocillaaGreatZoXdz10
import Derived.Test.YtaoecbpfocillaaGreatZoXdz9
import Derived.Test.YtaoecbpfocillaaGreatZoXdzHrows5
import Derived.Test.YtaoecbpfocillaaGreatZoPk
import Derived.Test.YtaoecbpfocillaaGreatZoXdzHdzlaw
import Derived.Laws.BitsLemmas
import Derived.OpenShut
import Derived.Test.YtaoecbpfocillaaGreatZoXdzLdzbase
import Derived.Test.YtaoecbpfocillaaGreatZoXdzLdzrise
import Derived.Test.YtaoecbpfocillaaGreatZoXdzLdzav
set_option linter.unusedVariables false
set_option linter.unusedSimpArgs false
namespace Go.Proofs.YtaoecbpfocillaaGreat.Pure
open Go.RowKit Go.Proofs.YtaoecbpfocillaaGreat.Xdz Go.Proofs.YtaoecbpfocillaaGreatW.PrintWords Go.Proofs.YtaoecbpfocillaaGreatW.PrintLast Go.Proofs.YtaoecbpfocillaaGreat.Pk

/-! ### draws: each tells something, and reads a bounded number of choices -/
def Bytes (s:List Int):Prop:=∀ x ∈ s,0≤x∧x≤255
theorem bytes_of {l:List Int} (h:∀ x ∈ l,(Lit.int .u8 x).wf=true):Bytes l:=by
  intro x hx;exact bounds_u8 (h x hx)
theorem u64r (x:Int):0≤IntKind.u64.wrap x∧IntKind.u64.wrap x < 18446744073709551616:=by
  simp [IntKind.wrap,IntKind.bits,IntKind.signed];omega
theorem and255 (y:Int) (h0:0≤y) (h1:y < 18446744073709551616):0≤Go.bits .and .u64 (y / 1099511627776) 255∧Go.bits .and .u64 (y / 1099511627776) 255≤255:=by
  have h:=bits_mask .u64 63 (by decide) (fun n a b=>by simp [IntKind.wrap,IntKind.bits,IntKind.signed];omega) 8 (by decide) (y / 1099511627776) (by omega) (by omega);have e:((2:Int) ^ 8 - 1)=255:=by decide
  have e2:((2:Int) ^ 8)=256:=by decide
  rw [e,e2] at h;rw [h];omega
theorem rd_byte {s:List Int} (hs:Bytes s) (i:Int) (h0:0≤i) (h1:i < (s.length:Int)):0≤rd s i∧rd s i≤255:=by
  have e:=rd_get s i.toNat (by omega);rw [Int.toNat_of_nonneg h0] at e;rw [e];exact hs _ (List.getElem_mem _)
theorem next_ok {s:List Int} (hs:Bytes s) (a sd:Int) (h0:0≤a) (h1:a≤4611686018427387904):∃ b sd',spec_l1Cur_next.f s a sd=some (b,a+1,sd')∧0≤b∧b≤255:=by
  unfold spec_l1Cur_next.f
  have e:Aside0 (wrap64 (a+1)=a+1):=⟨wr (by omega) (by omega)⟩
  rw [e.out];by_cases c:a < (s.length:Int)
  · have c2:a+1≤(s.length:Int):=by omega
    have hb:=rd_byte hs a h0 c;rw [if_pos c,if_pos h0,if_pos c2];refine ⟨_,_,rfl,?_,?_⟩<;>rw [wr (by omega) (by omega)]<;>omega
  · have c2:¬ a+1≤(s.length:Int):=by omega
    rw [if_neg c,if_neg c2];have hr:=u64r (IntKind.u64.wrap (IntKind.u64.wrap (sd*6364136223846793005))+462197);have ha:=and255 _ hr.1 hr.2;refine ⟨_,_,rfl,?_,?_⟩<;>rw [wr (by omega) (by omega)]<;>omega
theorem pick_ok {s:List Int} (hs:Bytes s) (a sd n:Int) (h0:0≤a) (h1:a≤1000000000):∃ r a' sd',spec_l1Cur_pick.f s a sd n=some (r,a',sd')∧0≤r∧(r < n∨r=0)∧a≤a'∧a'≤a+2:=by
  unfold spec_l1Cur_pick.f;by_cases c:n≤1
  · rw [if_pos c];exact ⟨0,a,sd,rfl,by omega,.inr rfl,by omega,by omega⟩
  · rw [if_neg c];obtain ⟨b,s1,e1,hb0,hb1⟩:=next_ok hs a sd h0 (by omega);rw [e1,Option.bind_some];have c0:¬ n=0:=by omega
    by_cases c2:n > 200
    · obtain ⟨b2,s2,e2,hc0,hc1⟩:=next_ok hs (a+1) s1 (by omega) (by omega);rw [if_pos c2,e2,Option.bind_some,if_neg c0];refine ⟨_,_,_,rfl,?_,.inl ?_,by dsimp only;omega,by dsimp only;omega⟩
      · rw [wr (i:=b*256) (by omega) (by omega),wr (by omega) (by omega)];exact Int.tmod_nonneg _ (by omega)
      · rw [wr (i:=b*256) (by omega) (by omega),wr (by omega) (by omega)];exact Int.tmod_lt_of_pos _ (by omega)
    · rw [if_neg c2,if_neg c0];exact ⟨_,_,_,rfl,Int.tmod_nonneg _ (by omega),.inl (Int.tmod_lt_of_pos _ (by omega)),by dsimp only;omega,by dsimp only;omega⟩
theorem one_ok {s:List Int} (hs:Bytes s) (a sd n:Int) (h0:0≤a) (h1:a≤1000000000):∃ r a' sd',spec_l1Cur_one.f s a sd n=some (r,a',sd')∧a≤a'∧a'≤a+2:=by
  unfold spec_l1Cur_one.f;obtain ⟨r,a',s',e,_,_,h2,h3⟩:=pick_ok hs a sd n h0 h1;rw [e];exact ⟨_,_,_,rfl,h2,h3⟩
theorem rd_memI (l:List Int) (i:Int) (h0:0≤i) (h1:i < (l.length:Int)):rd l i ∈ l:=by
  have e:=rd_get l i.toNat (by omega);rw [Int.toNat_of_nonneg h0] at e;rw [e];exact List.getElem_mem _
theorem among_ok {s:List Int} (hs:Bytes s) (a sd:Int) (l:List Int) (h0:0≤a) (h1:a≤1000000000) (hl:0 < l.length):∃ r a' sd',spec_l1Cur_among.f s a sd l=some (r,a',sd')∧r ∈ l∧a≤a'∧a'≤a+2:=by
  unfold spec_l1Cur_among.f;obtain ⟨r,a',s',e,k0,k1,h2,h3⟩:=pick_ok hs a sd (l.length:Int) h0 h1;have c:r < (l.length:Int):=by rcases k1 with k1|k1<;>omega
  rw [e,Option.bind_some,if_pos k0,if_pos c];exact ⟨_,_,_,rfl,rd_memI l r k0 c,h2,h3⟩
/-! ### draws of orders, words and beginnings -/
theorem own_eqD (l:List Int) (hl:l.length≤100000):spec_l1Own.f l=some l:=by
  unfold spec_l1Own.f;have c:([]:List Int).length+l.length < 17592186044416:=by rw [List.length_nil];omega
  simp only [Option.bind_some,c,↓reduceIte,List.nil_append]
theorem order_loop {s:List Int} (hs:Bytes s):∀ (n:Nat) (x:List Int) (a sd:Int),n+x.length≤100→0 < n+x.length→0≤a→a+2*(n:Int)≤10000→
    ∃ o a' sd',Ev (fun k=>spec_l1Cur_order.l0 k x (n:Int) s a sd) (o,a',sd')∧o.length≤100∧a≤a'∧a'≤a+2*(n:Int)+6:=by
  intro n
  induction n with
  |zero=>
    intro x a sd hx hp h0 h1;have c:¬ ((0:Nat):Int) > 0:=by omega
    obtain ⟨m,a1,s1,e1,m0,m1,p1,q1⟩:=pick_ok hs a sd 40 h0 (by omega);by_cases c0:m=0
    · refine ⟨[],a1,s1,Ev.step (f:=fun k=>spec_l1Cur_order.l0 (k+1) x ((0:Nat):Int) s a sd) (fun k=>rfl) ?_,by decide,by omega,by omega⟩;simp only [spec_l1Cur_order.l0,c,↓reduceIte];refine Ev.bind (a:=(m,a1,s1)) ⟨0,fun _ _=>e1⟩ ?_;simp only [c0,↓reduceIte];exact Ev.now _
    · by_cases c1:m=1
      · obtain ⟨i,a2,s2,e2,i0,i1,p2,q2⟩:=pick_ok hs a1 s1 (x.length:Int) (by omega) (by omega);obtain ⟨v,a3,s3,e3,_,p3,q3⟩:=among_ok hs a2 s2 ([0,1,8,(-1)]:List Int) (by omega) (by omega) (by decide);have ci:i < (x.length:Int):=by rcases i1 with h|h<;>omega
        refine ⟨x.set i.toNat v,a3,s3,Ev.step (f:=fun k=>spec_l1Cur_order.l0 (k+1) x ((0:Nat):Int) s a sd) (fun k=>rfl) ?_,by rw [List.length_set];omega,by omega,by omega⟩;simp only [spec_l1Cur_order.l0,c,↓reduceIte];refine Ev.bind (a:=(m,a1,s1)) ⟨0,fun _ _=>e1⟩ ?_;simp only [c0,c1,↓reduceIte];refine Ev.bind (a:=(i,a2,s2)) ⟨0,fun _ _=>e2⟩ ?_;refine Ev.bind (a:=(v,a3,s3)) ⟨0,fun _ _=>e3⟩ ?_;simp only [i0,ci,↓reduceIte];exact Ev.now _
      · by_cases c2:m=2
        · refine ⟨[1,2,3,4,5,6,7,8],a1,s1,Ev.step (f:=fun k=>spec_l1Cur_order.l0 (k+1) x ((0:Nat):Int) s a sd) (fun k=>rfl) ?_,by decide,by omega,by omega⟩;simp only [spec_l1Cur_order.l0,c,↓reduceIte];refine Ev.bind (a:=(m,a1,s1)) ⟨0,fun _ _=>e1⟩ ?_;simp only [c0,c1,c2,↓reduceIte];exact Ev.now _
        · refine ⟨x,a1,s1,Ev.step (f:=fun k=>spec_l1Cur_order.l0 (k+1) x ((0:Nat):Int) s a sd) (fun k=>rfl) ?_,by omega,by omega,by omega⟩;simp only [spec_l1Cur_order.l0,c,↓reduceIte];refine Ev.bind (a:=(m,a1,s1)) ⟨0,fun _ _=>e1⟩ ?_;simp only [c0,c1,c2,↓reduceIte];exact Ev.now _
  |succ n ih=>
    intro x a sd hx hp h0 h1;have c:((n+1:Nat):Int) > 0:=by omega
    have ew:=qA (show wrap64 (((n+1:Nat):Int) - 1)=(n:Int) from by rw [wr (by omega) (by omega)];omega);have el:=qA (show wrap64 ((x.length:Int)+1)=(x.length:Int)+1 from wr (by omega) (by omega));obtain ⟨i,a1,s1,e1,i0,i1,p1,q1⟩:=pick_ok hs a sd ((x.length:Int)+1) h0 (by omega);have ci:i≤(x.length:Int):=by rcases i1 with h|h<;>omega
    have ht:(x.take i.toNat).length≤x.length:=by rw [List.length_take];omega
    have hd:(x.drop i.toNat).length=x.length - i.toNat:=List.length_drop;have ht2:(x.take i.toNat).length=i.toNat:=by rw [List.length_take];omega
    have hL:(x.take i.toNat++[(x.length:Int)+1]++x.drop i.toNat).length=x.length+1:=by rw [List.length_append,List.length_append,List.length_singleton];omega
    have k1:(x.take i.toNat).length+([(x.length:Int)+1]:List Int).length < 17592186044416:=by rw [List.length_singleton];omega
    have k2:(x.take i.toNat++[(x.length:Int)+1]).length+(x.drop i.toNat).length < 17592186044416:=by rw [List.length_append,List.length_singleton];omega
    obtain ⟨o,a',sd',hf,zo,p2,q2⟩:=ih (x.take i.toNat++[(x.length:Int)+1]++x.drop i.toNat) a1 s1 (by rw [hL];omega) (by rw [hL];omega) (by omega) (by omega);refine ⟨o,a',sd',Ev.step (f:=fun k=>spec_l1Cur_order.l0 (k+1) x ((n+1:Nat):Int) s a sd) (fun k=>rfl) ?_,zo,by omega,by omega⟩;simp only [spec_l1Cur_order.l0,c,ew.out,el.out,↓reduceIte];refine Ev.bind (a:=(i,a1,s1)) ⟨0,fun _ _=>e1⟩ ?_;simp only [i0,ci,own_eqD (x.take i.toNat) (by omega),Option.bind_some,k1,k2,↓reduceIte];exact hf
theorem order_ok {s:List Int} (hs:Bytes s) (a sd:Int) (h0:0≤a) (h1:a≤1000):∃ o a' sd',Ev (fun k=>spec_l1Cur_order.f k s a sd) (o,a',sd')∧o.length≤100∧a≤a'∧a'≤a+30:=by
  obtain ⟨v,a1,s1,e1,hv,p1,q1⟩:=among_ok hs a sd ([4,5,3,6,2,7,1,4]:List Int) h0 (by omega) (by decide);have hv2:1≤v∧v≤7:=(by decide:∀ v ∈ ([4,5,3,6,2,7,1,4]:List Int),1≤v∧v≤7) v hv
  obtain ⟨n,hn⟩:∃ n:Nat,v=(n:Int):=⟨v.toNat,by omega⟩
  subst hn;obtain ⟨o,a',sd',hf,zo,p2,q2⟩:=order_loop hs n [] a1 s1 (by rw [List.length_nil];omega) (by rw [List.length_nil];omega) (by omega) (by omega);refine ⟨o,a',sd',?_,zo,by omega,by omega⟩;unfold spec_l1Cur_order.f;exact Ev.bind (a:=((n:Int),a1,s1)) ⟨0,fun _ _=>e1⟩ hf
theorem cut_ok {l:List Int} (hs:Bytes l) (hl:l.length≤140737488351232) (n:Int) (h0:0≤n) (h1:n≤255):∃ t,laws_vCut.f l n=some t∧Bytes t:=by
  unfold laws_vCut.f;by_cases c:n > (l.length:Int)
  · rw [if_pos c];have c0:0≤(l.length:Int):=by omega
    have c1:([]:List Int).length+(l.drop ((l.length:Int)).toNat).length < 140737488355328:=by rw [List.length_nil,List.length_drop];omega
    simp only [Option.bind_some,c0,c1,Int.le_refl,↓reduceIte];have c2:([]++l.drop ((l.length:Int)).toNat).length < 140737488355328:=by rw [List.length_append,List.length_nil,List.length_drop];omega
    rw [if_pos c2];refine ⟨_,rfl,?_⟩;intro x hx
    rcases List.mem_append.1 hx with hx|hx
    · rw [List.nil_append] at hx;exact hs x (List.mem_of_mem_drop hx)
    · have:=List.mem_singleton.1 hx;omega
  · rw [if_neg c];have c0:n≤(l.length:Int):=by omega
    have c1:([]:List Int).length+(l.drop n.toNat).length < 140737488355328:=by rw [List.length_nil,List.length_drop];omega
    simp only [Option.bind_some,h0,c0,c1,↓reduceIte];have c2:([]++l.drop n.toNat).length < 140737488355328:=by rw [List.length_append,List.length_nil,List.length_drop];omega
    rw [if_pos c2];refine ⟨_,rfl,?_⟩;intro x hx
    rcases List.mem_append.1 hx with hx|hx
    · rw [List.nil_append] at hx;exact hs x (List.mem_of_mem_drop hx)
    · have:=List.mem_singleton.1 hx;omega
/-! ### draws -/
theorem among_cut {s:List Int} (hs:Bytes s) (a sd b d:Int) (l:List Int) (h0:0≤a) (h1:a≤100000) (hb:1≤b) (hd:1≤d) (hl:b+23 / d≤(l.length:Int)) (hl2:l.length≤100):∃ r a1 s1 v a2 s2,spec_l1Cur_pick.f s a sd 24=some (r,a1,s1)∧0≤wrap64 (b+wrap64 (Int.tdiv r d))∧wrap64 (b+wrap64 (Int.tdiv r d))≤(l.length:Int)∧spec_l1Cur_among.f s a1 s1 (l.take (wrap64 (b+wrap64 (Int.tdiv r d))).toNat)=some (v,a2,s2)∧v ∈ l∧a≤a2∧a2≤a+4:=by
  obtain ⟨r,a1,s1,e1,r0,r1,p1,q1⟩:=pick_ok hs a sd 24 h0 (by omega);have hr:r≤23:=by rcases r1 with h|h<;>omega
  have e2:Int.tdiv r d=r / d:=Int.tdiv_eq_ediv_of_nonneg r0;have hq0:0≤r / d:=Int.ediv_nonneg r0 (by omega);have hq1:r / d≤23 / d:=Int.ediv_le_ediv (by omega) hr;have e3:wrap64 (r / d)=r / d:=wr (by omega) (by omega);have e4:wrap64 (b+r / d)=b+r / d:=wr (by omega) (by omega);obtain ⟨v,a2,s2,e5,hv,p2,q2⟩:=among_ok hs a1 s1 (l.take (b+r / d).toNat) (by omega) (by omega) (by rw [List.length_take];omega);exact ⟨r,a1,s1,v,a2,s2,e1,by rw [e2,e3,e4];omega,by rw [e2,e3,e4];omega,by rw [e2,e3,e4];exact e5,List.mem_of_mem_take hv,by omega,by omega⟩
theorem drawn9_ok {s:List Int} (hs:Bytes s) (a sd:Int) (h0:0≤a) (h1:a≤1000):∃ v a' sd',spec_l1Cur_drawn9.f s a sd=some (v,a',sd')∧-1≤v∧v≤7∧a≤a'∧a'≤a+4:=by
  obtain ⟨r,a1,s1,v,a2,s2,e1,c1,c2,e2,hv,p,q⟩:=among_cut hs a sd 6 8 ([4,3,5,2,1,6,0,7,(-1)]:List Int) h0 (by omega) (by decide) (by decide) (by decide) (by decide);have hv2:=(by decide:∀ v ∈ ([4,3,5,2,1,6,0,7,(-1)]:List Int),-1≤v∧v≤7) v hv;refine ⟨v,a2,s2,?_,hv2.1,hv2.2,p,q⟩;unfold spec_l1Cur_drawn9.f;rw [Option.bind_some,e1,Option.bind_some,if_pos c1,if_pos c2,e2];rfl
theorem draw_sorts {s:List Int} (hs:Bytes s):∃ v,spec_DrawChanceSorts.f s=some v:=by
  obtain ⟨v,a,sd,e,_⟩:=drawn9_ok hs 0 0 (by omega) (by omega);exact ⟨v,by unfold spec_DrawChanceSorts.f;rw [e];rfl⟩
theorem draw_queues {s:List Int} (hs:Bytes s):∃ m k,spec_DrawChanceQueues.f s=some (m,k):=by
  obtain ⟨v,a,sd,e,_,_,p1,q1⟩:=drawn9_ok hs 0 0 (by omega) (by omega);obtain ⟨r,a1,s1,k,a2,s2,e1,c1,c2,e2,hv,p,q⟩:=among_cut hs a sd 5 11 ([2,3,1,4,6,0,7]:List Int) (by omega) (by omega) (by decide) (by decide) (by decide) (by decide);refine ⟨v,k,?_⟩;unfold spec_DrawChanceQueues.f;rw [e,Option.bind_some,Option.bind_some,e1,Option.bind_some,if_pos c1,if_pos c2,e2];rfl
theorem pattern3_ok {s:List Int} (hs:Bytes s) (a sd:Int) (h0:0≤a) (h1:a≤800):∃ p a' sd',Ev (fun k=>spec_l1Cur_pattern3.f k s a sd) (p,a',sd')∧p.length≤100∧a≤a'∧a'≤a+40:=by
  obtain ⟨b,a1,s1,e1,p1,q1⟩:=one_ok hs a sd 5 h0 (by omega);unfold spec_l1Cur_pattern3.f;simp only [Option.bind_some,e1]
  cases b with
  |true=>
    obtain ⟨o,a2,s2,ho,zo,p2,q2⟩:=order_ok hs a1 s1 (by omega) (by omega);simp only [↓reduceIte];exact ⟨o,a2,s2,ho,zo,by omega,by omega⟩
  |false=>
    obtain ⟨r,a2,s2,e2,r0,r1,p2,q2⟩:=pick_ok hs a1 s1 11 (by omega) (by omega);have c:r < 11:=by rcases r1 with h|h<;>omega
    have hz:∀ j:Nat,(pat3Y.getD j []).length≤100:=fun j=>by
      rw [List.getD_eq_getElem?_getD]
      cases hg:pat3Y[j]? with
      |none=>simp
      |some q=>exact (by decide:∀ y ∈ pat3Y,y.length≤100) q (List.mem_of_getElem? hg)
    simp only [Bool.false_eq_true,e2,Option.bind_some,r0,c,and_self,↓reduceIte,own_eqD _ (show (pat3Y.getD r.toNat []).length≤100000 by have:=hz r.toNat;omega)];exact ⟨_,a2,s2,Ev.now _,hz _,by omega,by omega⟩
theorem patterns_loop {s:List Int} (hs:Bytes s) (n:Nat):∀ (ps:List (List Int)) (a sd:Int),n≤5→n+ps.length≤5→0≤a→a+40*(n:Int)≤400→∃ r a' sd',Ev (fun k=>spec_l1Cur_patterns3.l0 k ps (n:Int) s a sd) (r,a',sd')∧r.length≤5:=by
  induction n with
  |zero=>
    intro ps a sd _ hl _ _;have c:¬ ((0:Nat):Int) > 0:=by omega
    exact ⟨ps,a,sd,Ev.step (f:=fun _=>some (ps,a,sd)) (fun k=>by simp only [spec_l1Cur_patterns3.l0,c,↓reduceIte]) (Ev.now _),by omega⟩
  |succ n ih=>
    intro ps a sd hn hl h0 h1;obtain ⟨p,a1,s1,e1,_,p1,q1⟩:=pattern3_ok hs a sd h0 (by omega);obtain ⟨r,a2,s2,e2,hr⟩:=ih (ps++[p]) a1 s1 (by omega) (by rw [List.length_append,List.length_singleton];omega) (by omega) (by omega);have c:((n+1:Nat):Int) > 0:=by omega
    have c2:ps.length < 5864062014805:=by omega
    have ew:=qA (show wrap64 (((n+1:Nat):Int) - 1)=(n:Int) from by rw [wr (by omega) (by omega)];omega);refine ⟨r,a2,s2,Ev.step (f:=fun k=>(spec_l1Cur_pattern3.f k s a sd).bind fun bt=>(spec_l1Cur_patterns3.l0 k (ps++[bt.1]) (n:Int) s bt.2.1 bt.2.2)) (fun k=>by simp only [spec_l1Cur_patterns3.l0,c,c2,ew.out,↓reduceIte]) ?_,hr⟩;exact Ev.bind e1 e2
theorem patterns3_ok {s:List Int} (hs:Bytes s) (a sd:Int) (h0:0≤a) (h1:a≤100):∃ r a' sd',Ev (fun k=>spec_l1Cur_patterns3.f k s a sd) (r,a',sd')∧r.length≤5:=by
  obtain ⟨r,a1,s1,v,a2,s2,e1,c1,c2,e2,hv,p,q⟩:=among_cut hs a sd 6 23 ([1,2,1,3,0,4,5]:List Int) h0 (by omega) (by decide) (by decide) (by decide) (by decide);have hv2:=(by decide:∀ v ∈ ([1,2,1,3,0,4,5]:List Int),0≤v∧v≤5) v hv
  obtain ⟨n,rfl⟩:∃ n:Nat,v=(n:Int):=⟨v.toNat,by omega⟩
  obtain ⟨r,a',sd',hf,hr⟩:=patterns_loop hs n [] a2 s2 (by omega) (by rw [List.length_nil];omega) (by omega) (by omega);refine ⟨r,a',sd',?_,hr⟩;unfold spec_l1Cur_patterns3.f;simp only [Option.bind_some,e1,c1,c2,e2,↓reduceIte];exact hf
theorem draw_avoids {s:List Int} (hs:Bytes s):∃ v p,Ev (fun k=>spec_DrawChanceAvoids.f k s) (v,p)∧p.length≤5:=by
  obtain ⟨v,a,sd,e,_,_,p1,q1⟩:=drawn9_ok hs 0 0 (by omega) (by omega);obtain ⟨r,a',sd',hf,hr⟩:=patterns3_ok hs a sd (by omega) (by omega);refine ⟨v,r,?_,hr⟩;unfold spec_DrawChanceAvoids.f;simp only [e,Option.bind_some];exact Ev.bind hf (Ev.now _)
/-! ### fractions -/
theorem frac_cross (a b:Int) (ha:0≤a) (ha2:a≤1000000) (hb:0 < b) (hb2:b≤1000000):∃ r:Int × Int,Ev (fun k=>spec_l9Cut.f k a b) r∧r.1*b=a*r.2:=by
  have go:∀ (m:Nat) (x y:Int),0≤x→0≤y→y≤m→0 < x+y→(∀ d:Int,d ∣ x→d ∣ y→d ∣ a∧d ∣ b)→∃ r:Int × Int,Ev (fun k=>spec_l9Cut.l0 k a b x y) r∧r.1*b=a*r.2:=by
    have last:∀ x:Int,0 < x→x ∣ a→x ∣ b→∃ r:Int × Int,Ev (fun k=>spec_l9Cut.l0 k a b x 0) r∧r.1*b=a*r.2:=by
      intro x hx da db;have n1:¬ (0:Int) > 0:=by omega
      have n0:¬ x=0:=by omega
      have hm:spec_l1Most.f x 1=some x:=by
        unfold spec_l1Most.f;by_cases h:x > 1
        · rw [if_pos h]
        · rw [if_neg h];congr 1;omega
      have k1:Int.tdiv a x=a / x:=Int.tdiv_eq_ediv_of_nonneg ha;have k2:Int.tdiv b x=b / x:=Int.tdiv_eq_ediv_of_nonneg (by omega);have b1:=Int.ediv_nonneg ha (show 0≤x by omega);have b2:=Int.ediv_nonneg (show 0≤b by omega) (show 0≤x by omega);have b3:=Int.ediv_le_self x ha;have b4:=Int.ediv_le_self x (show 0≤b by omega);have w1:wrap64 (a / x)=a / x:=wr (by omega) (by omega);have w2:wrap64 (b / x)=b / x:=wr (by omega) (by omega);refine ⟨(a / x,b / x),Ev.step (f:=fun _=>some (a / x,b / x)) (fun k=>by simp only [spec_l9Cut.l0,n1,n0,hm,Option.bind_some,↓reduceIte,k1,k2,w1,w2]) (Ev.now _),?_⟩
      show a / x*b=a*(b / x)
      obtain ⟨u,rfl⟩:=da;obtain ⟨v,rfl⟩:=db;rw [Int.mul_ediv_cancel_left u n0,Int.mul_ediv_cancel_left v n0,Int.mul_left_comm,Int.mul_assoc]
    intro m
    induction m with
    |zero=>
      intro x y hx hy hym hs hd;obtain rfl:y=0:=by omega
      have h:=hd x (Int.dvd_refl x) (Int.dvd_zero x);exact last x (by omega) h.1 h.2
    |succ m ih=>
      intro x y hx hy hym hs hd;by_cases h0:y=0
      · subst h0;have h:=hd x (Int.dvd_refl x) (Int.dvd_zero x);exact last x (by omega) h.1 h.2
      · have hy0:y > 0:=by omega
        have e:Int.tmod x y=x % y:=Int.tmod_eq_emod_of_nonneg hx;have h1:=Int.emod_nonneg x h0;have h2:=Int.emod_lt_of_pos x hy0
        obtain ⟨r,r1,r2⟩:=ih y (Int.tmod x y) hy (by rw [e];exact h1) (by rw [e];omega) (by rw [e];omega) (fun d hdy hdx=>by
          rw [e] at hdx
          have h3:d ∣ x:=by
            rw [← Int.mul_ediv_add_emod x y];exact Int.dvd_add (Int.dvd_trans hdy (Int.dvd_mul_right y (x / y))) hdx
          exact hd d h3 hdy)
        exact ⟨r,Ev.step (fun k=>by simp only [spec_l9Cut.l0,hy0,h0,↓reduceIte]) r1,r2⟩
  obtain ⟨r,r1,r2⟩:=go b.toNat a b ha (by omega) (by omega) (by omega) (fun d h1 h2=>⟨h1,h2⟩);exact ⟨r,r1,r2⟩
/-! ### the numbers -/
def tS:Nat→Int × Int
  |1=>(1,1)
  |2=>(1,1)
  |3=>(5,6)
  |4=>(7,12)
  |5=>(7,20)
  |6=>(11,60)
  |_=>(0,1)
def tR:Nat→Int × Int
  |1=>(1,1)
  |2=>(3,2)
  |3=>(2,1)
  |4=>(5,2)
  |5=>(3,1)
  |6=>(7,2)
  |_=>(0,1)
def tL:Nat→Int × Int
  |1=>(1,1)
  |2=>(3,2)
  |3=>(2,1)
  |4=>(29,12)
  |5=>(67,24)
  |6=>(2261,720)
  |_=>(0,1)
def tI:Nat→Int × Int
  |1=>(0,1)
  |2=>(1,2)
  |3=>(3,2)
  |4=>(3,1)
  |5=>(5,1)
  |6=>(15,2)
  |_=>(0,1)
def tQ:Nat→Nat→Int × Int
  |1,1=>(1,1)
  |1,2=>(0,1)
  |1,3=>(0,1)
  |1,4=>(0,1)
  |1,5=>(0,1)
  |1,6=>(0,1)
  |2,1=>(1,2)
  |2,2=>(1,2)
  |2,3=>(0,1)
  |2,4=>(0,1)
  |2,5=>(0,1)
  |2,6=>(0,1)
  |3,1=>(1,6)
  |3,2=>(2,3)
  |3,3=>(1,6)
  |3,4=>(0,1)
  |3,5=>(0,1)
  |3,6=>(0,1)
  |4,1=>(1,24)
  |4,2=>(13,24)
  |4,3=>(3,8)
  |4,4=>(1,24)
  |4,5=>(0,1)
  |4,6=>(0,1)
  |5,1=>(1,120)
  |5,2=>(41,120)
  |5,3=>(61,120)
  |5,4=>(2,15)
  |5,5=>(1,120)
  |5,6=>(0,1)
  |6,1=>(1,720)
  |6,2=>(131,720)
  |6,3=>(127,240)
  |6,4=>(181,720)
  |6,5=>(5,144)
  |6,6=>(1,720)
  |_,_=>(0,1)
def ri2 (o:List Int):Int:=match spec_l5Rows.f 20 o with|some (r :: _,_)=>(r.length:Int)|_=>0
theorem ri2_eq (n:Nat) (h1:1≤n) (h6:n≤6):((ords n).map fun l=>(riN l:Int))=(ords n).map ri2:=by
  refine List.map_congr_left (fun o ho=>?_)
  have hall:(ords n).all riB=true:=by
    have:n=1∨n=2∨n=3∨n=4∨n=5∨n=6:=by omega
    rcases this with rfl|rfl|rfl|rfl|rfl|rfl
    · exact ri_1
    · exact ri_2
    · exact ri_3
    · exact ri_4
    · exact ri_5
    · exact ri_6
  have hb:=List.all_eq_true.1 hall o ho;unfold riB at hb;unfold riN ri2
  cases h1:riF 20 o with
  |none=>rw [h1] at hb;cases hb
  |some a=>
    cases h2:spec_l5Rows.f 20 o with
    |none=>rw [h1,h2] at hb;cases hb
    |some p=>
      obtain ⟨rows,tw⟩:=p
      cases rows with
      |nil=>rw [h1,h2] at hb;cases hb
      |cons r rs=>
        rw [h1,h2] at hb;simp only [Bool.and_eq_true,decide_eq_true_eq] at hb;rw [Option.getD_some,hb.1];simp
set_option maxRecDepth 100000 in
theorem numS:∀ n:Nat,1≤n→n≤6→spec_l9Cut.f 60 (((ords n).map sortsG).sum) (fct n:Int)=some (tS n):=by
  intro n h1 h6;have hn:n=1∨n=2∨n=3∨n=4∨n=5∨n=6:=by omega
  rcases hn with rfl|rfl|rfl|rfl|rfl|rfl
  · decide+kernel
  · decide+kernel
  · decide+kernel
  · decide+kernel
  · decide+kernel
  · decide+kernel
set_option maxRecDepth 100000 in
theorem numR:∀ n:Nat,1≤n→n≤6→spec_l9Cut.f 60 (((ords n).map runG).sum) (fct n:Int)=some (tR n):=by
  intro n h1 h6;have hn:n=1∨n=2∨n=3∨n=4∨n=5∨n=6:=by omega
  rcases hn with rfl|rfl|rfl|rfl|rfl|rfl
  · decide+kernel
  · decide+kernel
  · decide+kernel
  · decide+kernel
  · decide+kernel
  · decide+kernel
set_option maxRecDepth 100000 in
theorem numL2:∀ n:Nat,1≤n→n≤6→spec_l9Cut.f 60 (((ords n).map ri2).sum) (fct n:Int)=some (tL n):=by
  intro n h1 h6;have hn:n=1∨n=2∨n=3∨n=4∨n=5∨n=6:=by omega
  rcases hn with rfl|rfl|rfl|rfl|rfl|rfl
  · decide+kernel
  · decide+kernel
  · decide+kernel
  · decide+kernel
  · decide+kernel
  · decide+kernel
set_option maxRecDepth 100000 in
theorem numI:∀ n:Nat,1≤n→n≤6→spec_l9Cut.f 60 (((ords n).map fun l=>(invB l:Int)).sum) (fct n:Int)=some (tI n):=by
  intro n h1 h6;have hn:n=1∨n=2∨n=3∨n=4∨n=5∨n=6:=by omega
  rcases hn with rfl|rfl|rfl|rfl|rfl|rfl
  · decide+kernel
  · decide+kernel
  · decide+kernel
  · decide+kernel
  · decide+kernel
  · decide+kernel
set_option maxRecDepth 100000 in
theorem numA:∀ n:Nat,1≤n→n≤6→spec_l9Cut.f 60 (((ords n).map fun o=>if avB [[2,3,1]] o=true then (1:Int) else 0).sum) (fct n:Int)=some (tS n):=by
  intro n h1 h6;have hn:n=1∨n=2∨n=3∨n=4∨n=5∨n=6:=by omega
  rcases hn with rfl|rfl|rfl|rfl|rfl|rfl
  · decide+kernel
  · decide+kernel
  · decide+kernel
  · decide+kernel
  · decide+kernel
  · decide+kernel
set_option maxRecDepth 100000 in
theorem numQ1:∀ n:Nat,1≤n→n≤6→spec_l9Cut.f 60 (((ords n).map (quG 1)).sum) (fct n:Int)=some (tQ n 1):=by
  intro n h1 h6;have hn:n=1∨n=2∨n=3∨n=4∨n=5∨n=6:=by omega
  rcases hn with rfl|rfl|rfl|rfl|rfl|rfl
  · decide+kernel
  · decide+kernel
  · decide+kernel
  · decide+kernel
  · decide+kernel
  · decide+kernel
set_option maxRecDepth 100000 in
theorem numQ2:∀ n:Nat,1≤n→n≤6→spec_l9Cut.f 60 (((ords n).map (quG 2)).sum) (fct n:Int)=some (tQ n 2):=by
  intro n h1 h6;have hn:n=1∨n=2∨n=3∨n=4∨n=5∨n=6:=by omega
  rcases hn with rfl|rfl|rfl|rfl|rfl|rfl
  · decide+kernel
  · decide+kernel
  · decide+kernel
  · decide+kernel
  · decide+kernel
  · decide+kernel
set_option maxRecDepth 100000 in
theorem numQ3:∀ n:Nat,1≤n→n≤6→spec_l9Cut.f 60 (((ords n).map (quG 3)).sum) (fct n:Int)=some (tQ n 3):=by
  intro n h1 h6;have hn:n=1∨n=2∨n=3∨n=4∨n=5∨n=6:=by omega
  rcases hn with rfl|rfl|rfl|rfl|rfl|rfl
  · decide+kernel
  · decide+kernel
  · decide+kernel
  · decide+kernel
  · decide+kernel
  · decide+kernel
set_option maxRecDepth 100000 in
theorem numQ4:∀ n:Nat,1≤n→n≤6→spec_l9Cut.f 60 (((ords n).map (quG 4)).sum) (fct n:Int)=some (tQ n 4):=by
  intro n h1 h6;have hn:n=1∨n=2∨n=3∨n=4∨n=5∨n=6:=by omega
  rcases hn with rfl|rfl|rfl|rfl|rfl|rfl
  · decide+kernel
  · decide+kernel
  · decide+kernel
  · decide+kernel
  · decide+kernel
  · decide+kernel
set_option maxRecDepth 100000 in
theorem numQ5:∀ n:Nat,1≤n→n≤6→spec_l9Cut.f 60 (((ords n).map (quG 5)).sum) (fct n:Int)=some (tQ n 5):=by
  intro n h1 h6;have hn:n=1∨n=2∨n=3∨n=4∨n=5∨n=6:=by omega
  rcases hn with rfl|rfl|rfl|rfl|rfl|rfl
  · decide+kernel
  · decide+kernel
  · decide+kernel
  · decide+kernel
  · decide+kernel
  · decide+kernel
set_option maxRecDepth 100000 in
theorem numQ6:∀ n:Nat,1≤n→n≤6→spec_l9Cut.f 60 (((ords n).map (quG 6)).sum) (fct n:Int)=some (tQ n 6):=by
  intro n h1 h6;have hn:n=1∨n=2∨n=3∨n=4∨n=5∨n=6:=by omega
  rcases hn with rfl|rfl|rfl|rfl|rfl|rfl
  · decide+kernel
  · decide+kernel
  · decide+kernel
  · decide+kernel
  · decide+kernel
  · decide+kernel
theorem numQ (n q:Nat) (h1:1≤n) (h6:n≤6) (q1:1≤q) (q6:q≤6):spec_l9Cut.f 60 (((ords n).map (quG (q:Int))).sum) (fct n:Int)=some (tQ n q):=by
  have hq:q=1∨q=2∨q=3∨q=4∨q=5∨q=6:=by omega
  rcases hq with rfl|rfl|rfl|rfl|rfl|rfl
  · exact numQ1 n h1 h6
  · exact numQ2 n h1 h6
  · exact numQ3 n h1 h6
  · exact numQ4 n h1 h6
  · exact numQ5 n h1 h6
  · exact numQ6 n h1 h6
theorem tQ_bound:∀ n:Nat,1≤n→n≤6→∀ q:Nat,1≤q→q≤6→0≤(tQ n q).1∧(tQ n q).1≤1000:=by
  intro n h1 h6 q q1 q6;have hn:n=1∨n=2∨n=3∨n=4∨n=5∨n=6:=by omega
  have hq:q=1∨q=2∨q=3∨q=4∨q=5∨q=6:=by omega
  rcases hn with rfl|rfl|rfl|rfl|rfl|rfl<;>rcases hq with rfl|rfl|rfl|rfl|rfl|rfl<;>decide
theorem known {a b:Int} {r v:Int × Int} (h:Ev (fun k=>spec_l9Cut.f k a b) r) (hv:spec_l9Cut.f 60 a b=some v):r=v:=ev_one h (Ev.of (fun k=>spec_l9Cut.mono a b k) (k:=60) hv)
/-- The chances of numbers of queues, and their mean, summed up. -/
def qrun (n:Nat):Nat→Nat→Int × Int→Int × Int→Option ((Int × Int) × (Int × Int))
  |0,_,s,m=>some (s,m)
  |d+1,q,s,m=>(laws_vPlus.f 60 s.1 s.2 (tQ n q).1 (tQ n q).2).bind fun s2=>(laws_vPlus.f 60 m.1 m.2 ((q:Int)*(tQ n q).1) (tQ n q).2).bind fun m2=>qrun n d (q+1) s2 m2
set_option maxRecDepth 100000 in
theorem qrun_ok:∀ n:Nat,1≤n→n≤6→qrun n 6 1 (0,1) (0,1)=some ((1,1),tL n):=by
  intro n h1 h6;have hn:n=1∨n=2∨n=3∨n=4∨n=5∨n=6:=by omega
  rcases hn with rfl|rfl|rfl|rfl|rfl|rfl
  · decide+kernel
  · decide+kernel
  · decide+kernel
  · decide+kernel
  · decide+kernel
  · decide+kernel
set_option maxRecDepth 100000 in
theorem less_no:∀ n:Nat,1≤n→n≤6→laws_vLess.f 60 (n:Int) 1 (tL n).1 (tL n).2=some false:=by
  intro n h1 h6;have hn:n=1∨n=2∨n=3∨n=4∨n=5∨n=6:=by omega
  rcases hn with rfl|rfl|rfl|rfl|rfl|rfl
  · decide+kernel
  · decide+kernel
  · decide+kernel
  · decide+kernel
  · decide+kernel
  · decide+kernel
set_option maxRecDepth 100000 in
theorem three_runs:∀ n:Nat,1≤n→n≤6→wrap64 (2*(tR n).1)=wrap64 (wrap64 ((n:Int)+1)*(tR n).2):=by
  intro n h1 h6;have hn:n=1∨n=2∨n=3∨n=4∨n=5∨n=6:=by omega
  rcases hn with rfl|rfl|rfl|rfl|rfl|rfl
  · decide+kernel
  · decide+kernel
  · decide+kernel
  · decide+kernel
  · decide+kernel
  · decide+kernel
set_option maxRecDepth 100000 in
theorem four_inv:∀ n:Nat,1≤n→n≤6→wrap64 (4*(tI n).1)=wrap64 (wrap64 ((n:Int)*wrap64 ((n:Int) - 1))*(tI n).2):=by
  intro n h1 h6;have hn:n=1∨n=2∨n=3∨n=4∨n=5∨n=6:=by omega
  rcases hn with rfl|rfl|rfl|rfl|rfl|rfl
  · decide+kernel
  · decide+kernel
  · decide+kernel
  · decide+kernel
  · decide+kernel
  · decide+kernel
theorem ev_and {P Q:Nat→Prop} (h:∃ K,∀ k,K≤k→P k) (h':∃ K,∀ k,K≤k→Q k):∃ K,∀ k,K≤k→P k∧Q k:=by
  obtain ⟨K,h⟩:=h;obtain ⟨K',h'⟩:=h';exact ⟨K+K',fun k hk=>⟨h k (by omega),h' k (by omega)⟩⟩
theorem ev_all {P:Nat→Prop} (h:∀ k,P k):∃ K,∀ k,K≤k→P k:=⟨0,fun k _=>h k⟩
theorem ev_if {c:Prop} [Decidable c] {P:Nat→Prop} (h:c→∃ K,∀ k,K≤k→P k):∃ K,∀ k,K≤k→(c→P k):=by
  by_cases hc:c
  · obtain ⟨K,h⟩:=h hc;exact ⟨K,fun k hk _=>h k hk⟩
  · exact ⟨0,fun k _ h=>absurd h hc⟩
theorem ev_loop (n:Nat) (h1:1≤n) (h6:n≤6):∀ (d q:Nat) (s m:Int × Int),q+d=7→1≤q→qrun n d q s m=some ((1,1),tL n)→∃ K,∀ k,K≤k→LoopOk k (n:Int) (tL n).1 (tL n).2 d (q:Int) s m
  |0,q,s,m,hq,hq1,h=>by
    obtain ⟨rfl,rfl⟩:=Prod.mk.inj (Option.some.inj h);obtain rfl:q=7:=by omega
    exact ⟨0,fun _ _=>⟨rfl,rfl,rfl⟩⟩
  |d+1,q,s,m,hq,hq1,h=>by
    obtain ⟨s2,e1,h⟩:=Option.bind_eq_some_iff.1 h;obtain ⟨m2,e2,h⟩:=Option.bind_eq_some_iff.1 h;have next:=ev_loop n h1 h6 d (q+1) s2 m2 (by omega) (by omega) h;obtain ⟨r,_,e3,e4,e5⟩:=both_ChanceQueues (n:Int) (q:Int);have e4':r.2.2=true:=by rw [e4,decide_eq_true (by omega),decide_eq_true (by omega),decide_eq_true (by omega),decide_eq_true (by omega)];rfl
    have e6:=e5 e4';rw [Int.toNat_natCast] at e6;have e7:=known e6 (numQ n q h1 h6 hq1 (by omega))
    have er:r=((tQ n q).1,(tQ n q).2,true):=by
      obtain ⟨r1,r2,r3⟩:=r;simp only at e4' e7;rw [e4',← e7]
    rw [er] at e3;have c:(q:Int)≤6:=by omega
    have hb:=tQ_bound n h1 h6 q hq1 (by omega)
    have hm:0≤(q:Int)*(tQ n q).1∧(q:Int)*(tQ n q).1≤6*1000:=⟨Int.mul_nonneg (by omega) hb.1,Int.mul_le_mul c hb.2 hb.1 (by omega)⟩
    have ew:wrap64 ((q:Int)*(tQ n q).1)=(q:Int)*(tQ n q).1:=wr (by omega) (by omega);obtain ⟨K,hK⟩:=ev_and e3 (ev_and (Ev.of (fun k=>laws_vPlus.mono _ _ _ _ k) (k:=60) e1) (ev_and (Ev.of (fun k=>laws_vPlus.mono _ _ _ _ k) (k:=60) e2) next));refine ⟨K,fun k hk=>?_⟩;obtain ⟨a1,a2,a3,a4⟩:=hK k hk;exact ⟨c,by omega,tQ n q,s2,m2,a1,a2,by rw [ew];exact a3,a4⟩
/-! ### how many avoid -/
theorem ev_cntK (F:Nat→List Int→Option Bool) (G:List Int→Bool):∀ l:List (List Int),(∀ o ∈ l,Ev (fun k=>F k o) (!G o))→∃ r:Nat,Ev (fun k=>cntK (F k) l) r∧(r:Int)=(l.map fun o=>if G o=true then (1:Int) else 0).sum
  |[],_=>⟨0,Ev.now _,by simp⟩
  |x :: t,h=>by
    obtain ⟨r,e1,e2⟩:=ev_cntK F G t (fun o ho=>h o (by simp [ho]));have hx:=h x (by simp);rw [List.map_cons,List.sum_cons,← e2]
    cases hg:G x with
    |true=>
      rw [hg] at hx;exact ⟨r+1,Ev.bind hx (Ev.bind e1 (Ev.now _)),by simp;omega⟩
    |false=>
      rw [hg] at hx;exact ⟨r,Ev.bind hx (Ev.bind e1 (Ev.now _)),by simp⟩
theorem ev_CountAv (n:Nat) (h1:1≤n) (h6:n≤6) (pats:List (List Int)) (h4:pats.length≤4) (hp:∀ p ∈ pats,ordB p=true):Ev (fun k=>impl_CountAvoiding.f k (n:Int) pats) (((ords n).map fun o=>if avB pats o=true then (1:Int) else 0).sum,true):=by
  have ha:(decide (pats.length≤4)&&pats.all ordB)=true:=by rw [decide_eq_true h4,List.all_eq_true.2 hp];rfl
  have har:=ev_arF pats;rw [ha] at har
  obtain ⟨r,e1,e2⟩:=ev_cntK (fun k=>dlF k pats) (avB pats) (ords n) (fun o ho=>by
    unfold dlF
    exact Ev.bind (ev_avF pats h4 hp o (by have:=(ords_mem ho).2;omega)) (Ev.now _))
  have hb:=fct_le n (by omega);have hpos:=fct_pos n;have hl:=ords_len n;have c:0 < (ords n).length∧(ords n).length≤1000000:=by omega
  unfold impl_CountAvoiding.f;refine Ev.bind (a:=true) ⟨0,fun _ _=>by rw [ev_isSize,decide_eq_true (by omega),decide_eq_true (by omega)];rfl⟩ ?_;simp only [↓reduceIte];refine Ev.bind har ?_;simp only [↓reduceIte];rw [← e2];refine Ev.bind (a:=r) ?_ (Ev.now _);unfold agF;refine Ev.bind (ev_allOrders n h1 (by omega)) ?_;simp only [c,and_self,↓reduceIte];exact e1
theorem av_none (n:Nat):((ords n).map fun o=>if avB [] o=true then (1:Int) else 0).sum=(fct n:Int):=by
  rw [← ords_len n];generalize ords n=l
  induction l with
  |nil=>rfl
  |cons x t ih=>
    rw [List.map_cons,List.sum_cons,ih,List.length_cons];simp [avB];omega
theorem ev_cnt (x:Int) (ps:List (List Int)) (r:Int × Int × Bool) (e1:r.2.2=((decide (1≤x)&&decide (x≤6))&&(decide (ps.length≤4)&&ps.all ordB))) (e2:r.2.2=true→Ev (fun k=>spec_l9Cut.f k (((ords x.toNat).map fun o=>if avB ps o=true then (1:Int) else 0).sum) (fct x.toNat:Int)) (r.1,r.2.1)) (h:r.2.2=true):
    ∃ K,∀ k,K≤k→∃ a b:Int,impl_CountAvoiding.f k x ps=some (a,true)∧impl_CountAvoiding.f k x []=some (b,true)∧a*r.2.1=r.1*b:=by
  have e3:=e2 h;rw [h] at e1;have e1:=e1.symm;simp only [Bool.and_eq_true,decide_eq_true_eq,List.all_eq_true] at e1;obtain ⟨⟨x1,x6⟩,p4,po⟩:=e1
  obtain ⟨n,rfl⟩:∃ m:Nat,x=(m:Int):=⟨x.toNat,by omega⟩
  rw [Int.toNat_natCast] at e3;have h1:1≤n:=by omega
  have h6:n≤6:=by omega
  have b1:=fct_le n (by omega);have b2:=fct_pos n;have b3:=ords_len n
  have hs:∀ l:List (List Int),0≤(l.map fun o=>if avB ps o=true then (1:Int) else 0).sum∧(l.map fun o=>if avB ps o=true then (1:Int) else 0).sum≤(l.length:Int):=by
    intro l
    induction l with
    |nil=>simp
    |cons y t ih=>
      rw [List.map_cons,List.sum_cons,List.length_cons]
      split<;>omega
  have hso:=hs (ords n);obtain ⟨v,v1,v2⟩:=frac_cross (((ords n).map fun o=>if avB ps o=true then (1:Int) else 0).sum) (fct n:Int) hso.1 (by omega) (by omega) (by omega);have hv:=ev_one v1 e3;rw [hv] at v2;have c2:=ev_CountAv n h1 h6 [] (by simp) (by simp);rw [av_none] at c2;obtain ⟨K,hK⟩:=ev_and (ev_CountAv n h1 h6 ps p4 po) c2;exact ⟨K,fun k hk=>⟨_,_,(hK k hk).1,(hK k hk).2,v2.symm⟩⟩
theorem ev_deep (n:Int) (s r i v:Int × Int × Bool)
    (s1:s.2.2=(decide (1≤n)&&decide (n≤6))) (s2:s.2.2=true→Ev (fun k=>spec_l9Cut.f k (((ords n.toNat).map sortsG).sum) (fct n.toNat:Int)) (s.1,s.2.1))
    (r2:s.2.2=true→Ev (fun k=>spec_l9Cut.f k (((ords n.toNat).map runG).sum) (fct n.toNat:Int)) (r.1,r.2.1))
    (i2:s.2.2=true→Ev (fun k=>spec_l9Cut.f k (((ords n.toNat).map fun l=>(riN l:Int)).sum) (fct n.toNat:Int)) (i.1,i.2.1))
    (v2:s.2.2=true→Ev (fun k=>spec_l9Cut.f k (((ords n.toNat).map fun l=>(invB l:Int)).sum) (fct n.toNat:Int)) (v.1,v.2.1)) (h:s.2.2=true):
    ∃ K,∀ k,K≤k→(impl_ChanceAvoids.f k n [[2,3,1]]=some (s.1,s.2.1,true)∧wrap64 (2*r.1)=wrap64 (wrap64 (n+1)*r.2.1)∧wrap64 (4*v.1)=wrap64 (wrap64 (n*wrap64 (n - 1))*v.2.1)∧laws_vLess.f k n 1 i.1 i.2.1=some false∧LoopOk k n i.1 i.2.1 6 1 (0,1) (0,1)):=by
  have s2:=s2 h;have r2:=r2 h;have i2:=i2 h;have v2:=v2 h;rw [h] at s1;have s1:=s1.symm;simp only [Bool.and_eq_true,decide_eq_true_eq] at s1
  obtain ⟨n,rfl⟩:∃ m:Nat,n=(m:Int):=⟨n.toNat,by omega⟩
  rw [Int.toNat_natCast] at s2 r2 i2 v2;have h1:1≤n:=by omega
  have h6:n≤6:=by omega
  rw [ri2_eq n h1 h6] at i2;have s3:=known s2 (numS n h1 h6);have r3:=known r2 (numR n h1 h6);have i3:=known i2 (numL2 n h1 h6);have v3:=known v2 (numI n h1 h6);obtain ⟨o,_,o1,o2,o3⟩:=both_ChanceAvoids (n:Int) [[2,3,1]] (by simp);have o4:o.2.2=true:=by rw [o2,decide_eq_true (by omega),decide_eq_true (by omega)];decide
  have o5:=o3 o4;rw [Int.toNat_natCast] at o5;have o6:=known o5 (numA n h1 h6)
  have eo:o=((tS n).1,(tS n).2,true):=by
    obtain ⟨q1,q2,q3⟩:=o;simp only at o4 o6;rw [o4,← o6]
  rw [eo] at o1;have hless:=Ev.of (fun k=>laws_vLess.mono (n:Int) 1 (tL n).1 (tL n).2 k) (k:=60) (less_no n h1 h6);have t1:=three_runs n h1 h6;have t2:=four_inv n h1 h6;have es1:s.1=(tS n).1:=congrArg Prod.fst s3;have es2:s.2.1=(tS n).2:=congrArg Prod.snd s3;have er1:r.1=(tR n).1:=congrArg Prod.fst r3;have er2:r.2.1=(tR n).2:=congrArg Prod.snd r3;have ei1:i.1=(tL n).1:=congrArg Prod.fst i3;have ei2:i.2.1=(tL n).2:=congrArg Prod.snd i3;have ev1:v.1=(tI n).1:=congrArg Prod.fst v3;have ev2:v.2.1=(tI n).2:=congrArg Prod.snd v3;rw [es1,es2,er1,er2,ei1,ei2,ev1,ev2];exact ev_and o1 (ev_and (ev_all fun _=>t1) (ev_and (ev_all fun _=>t2) (ev_and hless (ev_loop n h1 h6 6 1 (0,1) (0,1) rfl (by omega) (qrun_ok n h1 h6)))))
theorem fnDrawnOrders (A0:Option Addr) (c0:Nat) (l0:List Int) (w:World) (hr0:Kd.C (Kd.int .u8) w A0 l0.length l0) (hc0:l0.length≤c0) (hl2:l0.length*1≤140737488351232) (hwf:∀ x ∈ l0,(Lit.int .u8 x).wf=true):
    Calls Tryz.prog 3 #[.slice A0 l0.length c0] w fun e w'=>e=.returned (.bool true)∧Below w.heap.size w w':=by
  have hs:=bytes_of hwf;have hv:laws_vBig.f l0=some (decide ((l0.length:Int) > 65536)):=rfl;by_cases hbig:(l0.length:Int) > 65536
  · rw [decide_eq_true hbig] at hv;exact dz_big A0 c0 l0 w hr0 hc0 hv
  · rw [decide_eq_false hbig] at hv;obtain ⟨n,hn⟩:=draw_sorts hs;obtain ⟨s1,c1,hs1⟩:=cut_ok hs (by omega) 1 (by omega) (by omega);obtain ⟨m,q,hq⟩:=draw_queues hs1;obtain ⟨s2,c2,hs2⟩:=cut_ok hs (by omega) 2 (by omega) (by omega);obtain ⟨x,ps,hp,zp⟩:=draw_avoids hs2;obtain ⟨S,sS,iS,bS,nS⟩:=both_ChanceSorts n;obtain ⟨R,sR,iR,bR,nR⟩:=both_MeanRuns n;obtain ⟨L,sL,iL,bL,nL⟩:=both_MeanRise n;obtain ⟨I,sI,iI,bI,nI⟩:=both_MeanInv n;obtain ⟨Q,sQ,iQ,_,_⟩:=both_ChanceQueues m q;obtain ⟨V,sV,iV,bV,nV⟩:=both_ChanceAvoids x ps (by omega);have e1:R.2.2=S.2.2:=bR.trans bS.symm;have e2:L.2.2=S.2.2:=bL.trans bS.symm;have e3:I.2.2=S.2.2:=bI.trans bS.symm;have hD:=ev_if (c:=S.2.2=true) (ev_deep n S R L I bS nS (fun h=>nR (e1.trans h)) (fun h=>nL (e2.trans h)) (fun h=>nI (e3.trans h)));have hV:=ev_if (c:=V.2.2=true) (ev_cnt x ps V bV nV);obtain ⟨K,hK⟩:=ev_and sS (ev_and iS (ev_and sR (ev_and iR (ev_and sL (ev_and iL (ev_and sI (ev_and iI (ev_and sQ (ev_and iQ (ev_and sV (ev_and iV (ev_and hp (ev_and hD hV)))))))))))));obtain ⟨k1,k2,k3,k4,k5,k6,k7,k8,k9,k10,k11,k12,k13,k14,k15⟩:=hK K (Nat.le_refl K);obtain ⟨S1,S2,ok⟩:=S;obtain ⟨R1,R2,ok1⟩:=R;obtain ⟨L1,L2,ok2⟩:=L;obtain ⟨I1,I2,ok3⟩:=I;obtain ⟨Q1,Q2,qk⟩:=Q;obtain ⟨V1,V2,vk⟩:=V;simp only at e1 e2 e3;subst e1 e2 e3;exact dz_walk K A0 c0 l0 w hr0 hc0 n m q x ps S1 S2 R1 R2 L1 L2 I1 I2 Q1 Q2 V1 V2 _ qk vk s1 s2 hv hn k2 k1 k4 k3 k6 k5 k8 k7 c1 hq k10 k9 c2 k13 k12 k11 k14 k15
theorem walk (a0:Option Addr) (len0 cap0:Nat) (z0:List Int) (w:World) (w0:(a0=none∧len0=0∧cap0=0∧z0=[])∨∃ x,a0=some x∧len0≤cap0∧cap0≤maxLen∧z0.length=cap0∧(∀ i,i < z0.length→w.cell? (x.add i)=some (.int .u8 (z0.getD i 0)))∧∀ n ∈ z0,(Lit.int .u8 n).wf=true) (y0:len0*1≤140737488351232):
    Calls Tryz.prog 3 #[.slice a0 len0 cap0] w fun e w'=>e=.returned (.bool true)∧Below w.heap.size w w':=by
  obtain ⟨l0,rfl,hr0,hm0,hw0,hc0⟩:=ReadsInt.ofRowC w0;exact fnDrawnOrders _ _ l0 w (Kd.C_of_reads (d:=(0:Int)) (h1:=fun _=>rfl) hr0) hc0 y0 hw0

end Go.Proofs.YtaoecbpfocillaaGreat.Pure
