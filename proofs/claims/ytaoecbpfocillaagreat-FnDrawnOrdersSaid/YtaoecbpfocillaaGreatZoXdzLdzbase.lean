/- What the plain law says of all orders, of draws, and of what avoids patterns. -/
import Derived.Test.YtaoecbpfocillaaGreatZoXdzHdz
import Derived.Test.YtaoecbpfocillaaGreatZoXdz7
import Derived.Test.YtaoecbpfocillaaGreatZoXdz6
import Derived.Test.YtaoecbpfocillaaGreatZoXdz5
import Derived.Test.YtaoecbpfocillaaGreatZoXdz4
import Derived.Test.YtaoecbpfocillaaGreatZoXdzHdelete
import Derived.Test.YtaoecbpfocillaaGreatZoXdz16
import Derived.Test.YtaoecbpfocillaaGreatZoXdz11
import Derived.Test.YtaoecbpfocillaaGreatZoXdz15
import Derived.Test.YtaoecbpfocillaaGreatZoXdz12
import Derived.Test.YtaoecbpfocillaaGreatZoXdz9
import Derived.Test.YtaoecbpfocillaaGreatZoXdz10
import Derived.Test.YtaoecbpfocillaaGreatZoXdzHsqu
import Derived.Test.YtaoecbpfocillaaGreatZoXdzHsruns
import Derived.Test.YtaoecbpfocillaaGreatZoPk
set_option linter.unusedVariables false
set_option linter.unusedSimpArgs false
namespace Go.Proofs.YtaoecbpfocillaaGreat.Pure
open Go.RowKit Go.Proofs.YtaoecbpfocillaaGreat.Xdz Go.Proofs.YtaoecbpfocillaaGreatW.PrintWords Go.Proofs.YtaoecbpfocillaaGreatW.PrintLast Go.Proofs.YtaoecbpfocillaaGreat.Pk

theorem ev_l1In' (a b c:Int):spec_l1In.f a b c=some (decide (b≤a)&&decide (a≤c)):=by
  unfold spec_l1In.f;by_cases h:b≤a
  · rw [if_pos h,decide_eq_true h,Bool.true_and]
  · rw [if_neg h,decide_eq_false h,Bool.false_and]
/-! ### the sorted order -/
theorem ev_l2Sorted (n:Nat) (hn:n≤1000):Ev (fun k=>spec_l2Sorted.f k (n:Int)) (iota 1 n):=by
  have go:∀ (m j:Nat),j+m=n→Ev (fun k=>spec_l2Sorted.l0 k (n:Int) (iota 1 j) (1+(j:Int))) (iota 1 n):=by
    intro m
    induction m with
    |zero=>
      intro j hj;have c:¬ 1+(j:Int)≤(n:Int):=by omega
      obtain rfl:j=n:=by omega
      exact Ev.step (f:=fun _=>some (iota 1 j)) (fun k=>by simp only [spec_l2Sorted.l0,c,↓reduceIte]) (Ev.now _)
    |succ m ih=>
      intro j hj;have c:1+(j:Int)≤(n:Int):=by omega
      have lim:(iota 1 j).length < 17592186044416:=by rw [iota_length];omega
      have e:=qA (show wrap64 (1+(j:Int)+1)=1+((j+1:Nat):Int) from by rw [wr (by omega) (by omega)];omega);refine Ev.step (fun k=>?_) (ih (j+1) (by omega));simp only [spec_l2Sorted.l0,c,lim,e.out,↓reduceIte];rw [iota_succ]
  have:=go n 0 (by omega);exact this
theorem ev_sorted (n:Nat) (hn:n≤1000):Ev (fun k=>impl_sorted.f k (n:Int)) (iota 1 n):=by
  have go:∀ (m j:Nat),j+m=n→Ev (fun k=>impl_sorted.l0 k (iota 1 j) (n:Int) (j:Int)) (iota 1 n):=by
    intro m
    induction m with
    |zero=>
      intro j hj;have c:¬ (j:Int) < (n:Int):=by omega
      obtain rfl:j=n:=by omega
      exact Ev.step (f:=fun _=>some (iota 1 j)) (fun k=>by simp only [impl_sorted.l0,c,↓reduceIte]) (Ev.now _)
    |succ m ih=>
      intro j hj;have c:(j:Int) < (n:Int):=by omega
      have lim:(iota 1 j).length < 17592186044416:=by rw [iota_length];omega
      have e:=qA (show wrap64 ((j:Int)+1)=((j+1:Nat):Int) from wj (by omega));refine Ev.step (fun k=>?_) (ih (j+1) (by omega));simp only [impl_sorted.l0,c,lim,e.out,↓reduceIte];rw [iota_succ,show (1:Int)+(j:Int)=((j+1:Nat):Int) by omega]
  exact go n 0 (by omega)
/-! ### all orders of so many numbers -/
def fct:Nat→Nat
  |0=>1
  |n+1=>(n+1)*fct n
theorem fct_pos:∀ n,0 < fct n
  |0=>by decide
  |n+1=>Nat.mul_pos (by omega) (fct_pos n)
theorem ev_factorial (m:Nat) (h:m≤7):Ev (fun k=>impl_factorial.f k (m:Int)) (fct m:Int):=by
  have hm:m=0∨m=1∨m=2∨m=3∨m=4∨m=5∨m=6∨m=7:=by omega
  rcases hm with rfl|rfl|rfl|rfl|rfl|rfl|rfl|rfl<;>exact Ev.of (fun k=>impl_factorial.mono _ k) (k:=20) (by decide+kernel)
theorem fct_le:∀ m,m≤7→fct m≤5040:=by
  intro m h;have hm:m=0∨m=1∨m=2∨m=3∨m=4∨m=5∨m=6∨m=7:=by omega
  rcases hm with rfl|rfl|rfl|rfl|rfl|rfl|rfl|rfl<;>decide
/-- The order with a rank, out of the numbers that are left. -/
def unr:Nat→List Int→Nat→List Int
  |0,_,_=>[]
  |m+1,left,k=>rd left ((k / fct m:Nat):Int) :: unr m (left.eraseIdx (k / fct m)) (k % fct m)
theorem unr_len:∀ m left k,(unr m left k).length=m
  |0,_,_=>rfl
  |m+1,left,k=>by rw [unr,List.length_cons,unr_len m]
theorem unr_perm:∀ (m:Nat) (left:List Int) (k:Nat),left.length=m→k < fct m→(unr m left k).Perm left
  |0,left,k,hl,_=>by
    obtain rfl:=List.eq_nil_of_length_eq_zero hl;exact List.Perm.refl _
  |m+1,left,k,hl,hk=>by
    have hq:k / fct m < left.length:=by
      rw [hl];exact Nat.div_lt_of_lt_mul (by rw [Nat.mul_comm];exact hk)
    have ih:=unr_perm m (left.eraseIdx (k / fct m)) (k % fct m) (by rw [List.length_eraseIdx_of_lt hq];omega) (Nat.mod_lt _ (fct_pos m));rw [unr,rd_get left _ hq];refine (List.Perm.cons _ ih).trans ?_;rw [List.eraseIdx_eq_take_drop_succ]
    have h1:left=left.take (k / fct m)++left[k / fct m] :: left.drop (k / fct m+1):=by
      rw [← List.drop_eq_getElem_cons hq,List.take_append_drop]
    exact (List.perm_middle.symm.trans (by rw [← h1]))
theorem ev_orderAt0:∀ (m:Nat) (left out:List Int) (k:Nat),left.length=m→m≤7→k < fct m→out.length+m≤100→Ev (fun K=>impl_orderAt.l0 K (m+1) (k:Int) left out) (out++unr m left k)
  |0,left,out,k,hl,_,_,_=>by
    have c:¬ 0 < left.length:=by omega
    rw [unr,List.append_nil];exact Ev.congr (f:=fun _=>some out) (fun K=>by simp only [impl_orderAt.l0,c,↓reduceIte]) (Ev.now _)
  |m+1,left,out,k,hl,hm,hk,ho=>by
    have c:0 < left.length:=by omega
    have hq:k / fct m < left.length:=by
      rw [hl];exact Nat.div_lt_of_lt_mul (by rw [Nat.mul_comm];exact hk)
    have hkb:=fct_le (m+1) hm;have hp:=fct_pos m;have hdk:k / fct m≤k:=Nat.div_le_self _ _
    obtain ⟨q,hqe⟩:∃ q:Nat,q=k / fct m:=⟨_,rfl⟩
    rw [← hqe] at hq hdk;have HQE:=qA hqe;clear hqe;have e1:=qA (show wrap64 ((left.length:Int) - 1)=(m:Int) from by rw [wr (by omega) (by omega)];omega);have e2:=qA (show wrap64 (Int.tdiv (k:Int) (fct m:Int))=(q:Int) from by rw [← Int.ofNat_tdiv,← HQE.out,wr (by omega) (by omega)]);have e3:=qA (show Int.tmod (k:Int) (fct m:Int)=((k % fct m:Nat):Int) from (Int.ofNat_tmod _ _).symm);have n0:¬ (fct m:Int)=0:=by omega
    have c2:0≤(q:Int)∧(q:Int) < (left.length:Int)∧out.length < 1000:=⟨by omega,by omega,by omega⟩
    have ih:=ev_orderAt0 m (left.eraseIdx q) (out++[rd left (q:Int)]) (k % fct m) (by rw [List.length_eraseIdx_of_lt hq];omega) (by omega) (Nat.mod_lt _ hp) (by rw [List.length_append,List.length_singleton];omega);rw [unr,← HQE.out,List.append_cons];refine Ev.congr (f:=fun K=>(impl_factorial.f K (m:Int)).bind fun p=>if p=0 then none else if 0≤wrap64 (Int.tdiv (k:Int) p)∧wrap64 (Int.tdiv (k:Int) p) < (left.length:Int)∧out.length < 1000 then impl_orderAt.l0 K (m+1) (Int.tmod (k:Int) p) (left.eraseIdx (wrap64 (Int.tdiv (k:Int) p)).toNat) (out++[rd left (wrap64 (Int.tdiv (k:Int) p))]) else none) (fun K=>?_) (Ev.bind (ev_factorial m (by omega)) ?_)
    · rw [impl_orderAt.l0,if_pos c,e1.out]
    · simp only [if_neg n0,e2.out,e3.out,if_pos c2,Int.toNat_natCast];exact ih
theorem ev_orderAt (n k:Nat) (h1:1≤n) (h7:n≤7) (hk:k < fct n):Ev (fun K=>impl_orderAt.f K (n:Int) (k:Int)) (unr n (iota 1 n) k):=by
  unfold impl_orderAt.f;refine Ev.bind (ev_sorted n (by omega)) ?_;have c:0 < (iota 1 n).length:=by rw [iota_length];omega
  simp only [if_pos c];have:=ev_orderAt0 n (iota 1 n) [] k (iota_length _ _) h7 hk (by simp;omega);rw [List.nil_append] at this;rw [iota_length];exact this
/-- All orders of n numbers. -/
def ords (n:Nat):List (List Int):=(List.range (fct n)).map (unr n (iota 1 n))
theorem ords_len (n:Nat):(ords n).length=fct n:=by simp [ords]
theorem ords_take (n j:Nat) (h:j < fct n):(List.range (j+1)).map (unr n (iota 1 n))=(List.range j).map (unr n (iota 1 n))++[unr n (iota 1 n) j]:=by
  rw [List.range_succ,List.map_append];rfl
theorem ev_allOrders (n:Nat) (h1:1≤n) (h7:n≤7):Ev (fun k=>impl_allOrders.f k (n:Int)) (ords n):=by
  have hb:=fct_le n h7
  have go:∀ (m j:Nat),j+m=fct n→Ev (fun k=>impl_allOrders.l0 k (n:Int) ((List.range j).map (unr n (iota 1 n))) (fct n:Int) (j:Int)) (ords n):=by
    intro m
    induction m with
    |zero=>
      intro j hj;have c:¬ (j:Int) < (fct n:Int):=by omega
      obtain rfl:j=fct n:=by omega
      exact Ev.step (f:=fun _=>some (ords n)) (fun k=>by simp only [impl_allOrders.l0,c,↓reduceIte];rfl) (Ev.now _)
    |succ m ih=>
      intro j hj;have c:(j:Int) < (fct n:Int):=by omega
      have lim:((List.range j).map (unr n (iota 1 n))).length < 5864062014805:=by rw [List.length_map,List.length_range];omega
      have e:=qA (show wrap64 ((j:Int)+1)=((j+1:Nat):Int) from wj (by omega));have nx:=ih (j+1) (by omega);rw [ords_take n j (by omega)] at nx;refine Ev.step (f:=fun k=>(impl_orderAt.f k (n:Int) (j:Int)).bind fun t692=>(if ((List.range j).map (unr n (iota 1 n))).length < 5864062014805 then (impl_allOrders.l0 k (n:Int) ((List.range j).map (unr n (iota 1 n))++[t692]) (fct n:Int) ((j+1:Nat):Int)) else (none))) (fun k=>by simp only [impl_allOrders.l0,c,e.out,↓reduceIte]) (Ev.bind (ev_orderAt n j h1 h7 (by omega)) ?_);simp only [lim,↓reduceIte];exact nx
  unfold impl_allOrders.f;exact Ev.bind (ev_factorial n h7) (go (fct n) 0 (by omega))
theorem ords_mem {n:Nat} {o:List Int} (h:o ∈ ords n):o.Perm (iota 1 n)∧o.length=n:=by
  obtain ⟨k,hk,rfl⟩:=List.mem_map.1 h;exact ⟨unr_perm n (iota 1 n) k (iota_length _ _) (List.mem_range.1 hk),unr_len _ _ _⟩
theorem ev_l2Ways (m:Nat) (h:m≤7):Ev (fun k=>spec_l2Ways.f k (m:Int)) (fct m:Int):=by
  have hm:m=0∨m=1∨m=2∨m=3∨m=4∨m=5∨m=6∨m=7:=by omega
  rcases hm with rfl|rfl|rfl|rfl|rfl|rfl|rfl|rfl<;>exact Ev.of (fun k=>spec_l2Ways.mono _ k) (k:=20) (by decide+kernel)
theorem ev_l2At0:∀ (m:Nat) (left out:List Int) (k:Nat),left.length=m→m≤7→k < fct m→out.length+m≤100→Ev (fun K=>spec_l2At.l0 K (k:Int) out left) (out++unr m left k)
  |0,left,out,k,hl,_,_,_=>by
    have c:¬ (left.length:Int) > 0:=by omega
    rw [unr,List.append_nil];exact Ev.step (f:=fun _=>some out) (fun K=>by simp only [spec_l2At.l0,c,↓reduceIte]) (Ev.now _)
  |m+1,left,out,k,hl,hm,hk,ho=>by
    have c:(left.length:Int) > 0:=by omega
    have hq:k / fct m < left.length:=by
      rw [hl];exact Nat.div_lt_of_lt_mul (by rw [Nat.mul_comm];exact hk)
    have hkb:=fct_le (m+1) hm;have hp:=fct_pos m;have hdk:k / fct m≤k:=Nat.div_le_self _ _
    obtain ⟨q,hqe⟩:∃ q:Nat,q=k / fct m:=⟨_,rfl⟩
    rw [← hqe] at hq hdk;have HQE:=qA hqe;clear hqe;have e1:=qA (show wrap64 ((left.length:Int) - 1)=(m:Int) from by rw [wr (by omega) (by omega)];omega);have e2:=qA (show wrap64 (Int.tdiv (k:Int) (fct m:Int))=(q:Int) from by rw [← Int.ofNat_tdiv,← HQE.out,wr (by omega) (by omega)]);have e3:=qA (show Int.tmod (k:Int) (fct m:Int)=((k % fct m:Nat):Int) from (Int.ofNat_tmod _ _).symm);have e4:=qA (show wrap64 ((q:Int)+1)=((q+1:Nat):Int) from wj (by omega));have n0:¬ (fct m:Int)=0:=by omega
    have c1:0≤(q:Int):=by omega
    have c2:(q:Int) < (left.length:Int):=by omega
    have c3:(q:Int)≤(left.length:Int):=by omega
    have c4:0≤((q+1:Nat):Int):=by omega
    have c5:((q+1:Nat):Int)≤(left.length:Int):=by omega
    have c6:out.length < 17592186044416:=by omega
    have own:spec_l1Own.f (left.take q)=some (left.take q):=by
      unfold spec_l1Own.f;have lim:([]:List Int).length+(left.take q).length < 17592186044416:=by simp;omega
      simp only [Option.bind_some,lim,↓reduceIte,List.nil_append]
    have c7:(left.take q).length+(left.drop (q+1)).length < 17592186044416:=by rw [List.length_take,List.length_drop];omega
    have ih:=ev_l2At0 m (left.eraseIdx q) (out++[rd left (q:Int)]) (k % fct m) (by rw [List.length_eraseIdx_of_lt hq];omega) (by omega) (Nat.mod_lt _ hp) (by rw [List.length_append,List.length_singleton];omega);rw [unr,← HQE.out,List.append_cons]
    refine Ev.step (f:=fun K=>(spec_l2Ways.f K (m:Int)).bind fun t802=>(if t802=0 then (none) else (if 0≤(wrap64 (Int.tdiv (k:Int) t802)) then (if (wrap64 (Int.tdiv (k:Int) t802)) < (left.length:Int) then (if out.length < 17592186044416 then (if (wrap64 (Int.tdiv (k:Int) t802))≤(left.length:Int) then ((spec_l1Own.f (left.take ((wrap64 (Int.tdiv (k:Int) t802)):Int).toNat)).bind fun t811=>(if 0≤(wrap64 ((wrap64 (Int.tdiv (k:Int) t802))+1)) then (if (wrap64 ((wrap64 (Int.tdiv (k:Int) t802))+1))≤(left.length:Int) then ((some (left.drop ((wrap64 ((wrap64 (Int.tdiv (k:Int) t802))+1)):Int).toNat:List Int)).bind fun y814=>(if t811.length+y814.length < 17592186044416 then (spec_l2At.l0 K (Int.tmod (k:Int) t802) (out++[rd left (wrap64 (Int.tdiv (k:Int) t802))]) (t811++y814)) else (none))) else (none)) else (none))) else (none)) else (none)) else (none)) else (none))))
      (fun K=>by simp only [spec_l2At.l0,c,e1.out,↓reduceIte]) (Ev.bind (ev_l2Ways m (by omega)) ?_)
    simp only [if_neg n0,e2.out,e3.out,e4.out,c1,c2,c3,c4,c5,c6,own,c7,Int.toNat_natCast,Option.bind_some,↓reduceIte];rw [← List.eraseIdx_eq_take_drop_succ];exact ih
theorem ev_l2At (n k:Nat) (h7:n≤7) (hk:k < fct n):Ev (fun K=>spec_l2At.f K (n:Int) (k:Int)) (unr n (iota 1 n) k):=by
  unfold spec_l2At.f;refine Ev.bind (ev_l2Sorted n (by omega)) ?_;have:=ev_l2At0 n (iota 1 n) [] k (iota_length _ _) h7 hk (by simp;omega);rw [List.nil_append] at this;exact this
theorem ev_l2Orders (n:Nat) (h7:n≤7):Ev (fun k=>spec_l2Orders.f k (n:Int)) (ords n):=by
  have hb:=fct_le n h7
  have go:∀ (m j:Nat),j+m=fct n→Ev (fun k=>spec_l2Orders.l0 k (n:Int) ((List.range j).map (unr n (iota 1 n))) (j:Int)) (ords n):=by
    intro m
    induction m with
    |zero=>
      intro j hj;have c:¬ (j:Int) < (fct n:Int):=by omega
      obtain rfl:j=fct n:=by omega
      refine Ev.step (f:=fun k=>(spec_l2Ways.f k (n:Int)).bind fun t824=>(if (fct n:Int) < t824 then ((spec_l2At.f k (n:Int) (fct n:Int)).bind fun t825=>(if ((List.range (fct n)).map (unr n (iota 1 n))).length < 5864062014805 then (spec_l2Orders.l0 k (n:Int) ((List.range (fct n)).map (unr n (iota 1 n))++[t825]) (wrap64 ((fct n:Int)+1))) else (none))) else (some ((List.range (fct n)).map (unr n (iota 1 n)))))) (fun k=>by simp only [spec_l2Orders.l0]) (Ev.bind (ev_l2Ways n h7) ?_);simp only [c,↓reduceIte];exact Ev.now _
    |succ m ih=>
      intro j hj;have c:(j:Int) < (fct n:Int):=by omega
      have lim:((List.range j).map (unr n (iota 1 n))).length < 5864062014805:=by rw [List.length_map,List.length_range];omega
      have e:=qA (show wrap64 ((j:Int)+1)=((j+1:Nat):Int) from wj (by omega));have nx:=ih (j+1) (by omega);rw [ords_take n j (by omega)] at nx;refine Ev.step (f:=fun k=>(spec_l2Ways.f k (n:Int)).bind fun t824=>(if (j:Int) < t824 then ((spec_l2At.f k (n:Int) (j:Int)).bind fun t825=>(if ((List.range j).map (unr n (iota 1 n))).length < 5864062014805 then (spec_l2Orders.l0 k (n:Int) ((List.range j).map (unr n (iota 1 n))++[t825]) ((j+1:Nat):Int)) else (none))) else (some ((List.range j).map (unr n (iota 1 n)))))) (fun k=>by simp only [spec_l2Orders.l0,e.out]) (Ev.bind (ev_l2Ways n h7) ?_);simp only [c,↓reduceIte];refine Ev.bind (ev_l2At n j h7 (by omega)) ?_;simp only [lim,↓reduceIte];exact nx
  exact go (fct n) 0 (by omega)
theorem chk_of (n:Int):∀ (l pre:List Int),(∀ x ∈ l,1≤x∧x≤n)→(pre++l).Nodup→chk n pre l=true
  |[],_,_,_=>rfl
  |x :: t,pre,h,hn=>by
    have hx:=h x (by simp)
    have hnx:x ∉ pre:=fun hp=>by
      have:=List.nodup_append.1 hn;exact this.2.2 x hp x (by simp) rfl
    simp only [chk,Bool.and_eq_true,decide_eq_true_eq,Bool.not_eq_true',List.contains_eq_mem,decide_eq_false_iff_not];exact ⟨⟨⟨hx.1,hx.2⟩,hnx⟩,chk_of n t (pre++[x]) (fun y hy=>h y (by simp [hy])) (by rw [List.append_assoc];exact hn)⟩
theorem iota_nodup (n:Nat):(iota 1 n).Nodup:=by
  unfold iota;rw [List.nodup_iff_pairwise_ne,List.pairwise_map];refine List.Pairwise.imp ?_ List.nodup_range;intro a b hab h;exact hab (by omega)
theorem iota_range (n:Nat):∀ x ∈ iota 1 n,1≤x∧x≤(n:Int):=by
  intro x hx;obtain ⟨i,hi,rfl⟩:=List.mem_map.1 hx;have:=List.mem_range.1 hi;omega
theorem ordB_of_perm {o:List Int} {n:Nat} (h1:1≤n) (h7:n≤7) (p:o.Perm (iota 1 n)):ordB o=true:=by
  have hl:o.length=n:=by rw [p.length_eq,iota_length]
  unfold ordB;rw [hl,decide_eq_true h1,decide_eq_true h7];refine chk_of n o [] (fun x hx=>iota_range n x (p.mem_iff.1 hx)) ?_;rw [List.nil_append];exact p.symm.nodup (iota_nodup n)
/-! ### fractions -/
theorem ev_frac (a b:Int) (ha:0≤a) (ha2:a≤9223372036854775807) (hb:0 < b) (hb2:b≤9223372036854775807):∃ r:Int × Int,Ev (fun k=>impl_fraction.f k a b) r∧Ev (fun k=>spec_l9Cut.f k a b) r:=by
  have go:∀ (m:Nat) (x y:Int),0≤x→0≤y→x≤9223372036854775807→y≤9223372036854775807→y≤m→0 < x+y→∃ r:Int × Int,Ev (fun k=>impl_fraction.l0 k a b x y) r∧Ev (fun k=>spec_l9Cut.l0 k a b x y) r:=by
    intro m
    induction m with
    |zero=>
      intro x y hx hy hxm hyM hym hs;obtain rfl:y=0:=by omega
      have n0:¬ x=0:=by omega
      have n1:¬ (0:Int) > 0:=by omega
      have hm:spec_l1Most.f x 1=some x:=by
        unfold spec_l1Most.f;by_cases h:x > 1
        · rw [if_pos h]
        · rw [if_neg h];congr 1;omega
      refine ⟨(wrap64 (Int.tdiv a x),wrap64 (Int.tdiv b x)),?_,?_⟩
      · exact Ev.step (f:=fun _=>some (wrap64 (Int.tdiv a x),wrap64 (Int.tdiv b x))) (fun k=>by simp only [impl_fraction.l0,n0,↓reduceIte]) (Ev.now _)
      · exact Ev.step (f:=fun _=>some (wrap64 (Int.tdiv a x),wrap64 (Int.tdiv b x))) (fun k=>by simp only [spec_l9Cut.l0,n1,n0,hm,Option.bind_some,↓reduceIte]) (Ev.now _)
    |succ m ih=>
      intro x y hx hy hxm hyM hym hs;by_cases h0:y=0
      · subst h0;have n0:¬ x=0:=by omega
        have n1:¬ (0:Int) > 0:=by omega
        have hm:spec_l1Most.f x 1=some x:=by
          unfold spec_l1Most.f;by_cases h:x > 1
          · rw [if_pos h]
          · rw [if_neg h];congr 1;omega
        refine ⟨(wrap64 (Int.tdiv a x),wrap64 (Int.tdiv b x)),?_,?_⟩
        · exact Ev.step (f:=fun _=>some (wrap64 (Int.tdiv a x),wrap64 (Int.tdiv b x))) (fun k=>by simp only [impl_fraction.l0,n0,↓reduceIte]) (Ev.now _)
        · exact Ev.step (f:=fun _=>some (wrap64 (Int.tdiv a x),wrap64 (Int.tdiv b x))) (fun k=>by simp only [spec_l9Cut.l0,n1,n0,hm,Option.bind_some,↓reduceIte]) (Ev.now _)
      · have hy0:y > 0:=by omega
        have e:Int.tmod x y=x % y:=Int.tmod_eq_emod_of_nonneg hx;have h1:=Int.emod_nonneg x h0;have h2:=Int.emod_lt_of_pos x hy0;obtain ⟨r,r1,r2⟩:=ih y (Int.tmod x y) hy (by rw [e];exact h1) hyM (by rw [e];omega) (by rw [e];omega) (by rw [e];omega);exact ⟨r,Ev.step (fun k=>by simp only [impl_fraction.l0,h0,↓reduceIte]) r1,Ev.step (fun k=>by simp only [spec_l9Cut.l0,hy0,h0,↓reduceIte]) r2⟩
  obtain ⟨r,r1,r2⟩:=go b.toNat a b ha (by omega) ha2 hb2 (by omega) (by omega);exact ⟨r,r1,r2⟩
/-! ### means over all orders -/
theorem ev_meanL (F:Nat→List Int→Option Int) (G:List Int→Int) (M:Int) (hM:0≤M) (hM2:M≤1000000):∀ (l:List (List Int)) (s:Int),(∀ o ∈ l,Ev (fun k=>F k o) (G o)∧0≤G o∧G o≤M)→0≤s→s+M*l.length≤1000000000000→Ev (fun k=>meanL (F k) l s) (s+(l.map G).sum)∧0≤(l.map G).sum∧(l.map G).sum≤M*l.length
  |[],s,_,_,_=>by
    simp only [meanL,List.map_nil,List.sum_nil,Int.add_zero];exact ⟨Ev.now _,Int.le_refl _,by simp⟩
  |o :: t,s,h,hs,hb=>by
    obtain ⟨a,b,c⟩:=h o (by simp)
    have hlen:M*((o :: t).length:Int)=M*(t.length:Int)+M:=by
      rw [List.length_cons,Int.natCast_add,Int.mul_add];simp
    rw [hlen] at hb ⊢;have hMt:0≤M*(t.length:Int):=Int.mul_nonneg hM (by omega);have e:=qA (show wrap64 (s+G o)=s+G o from wr (by omega) (by omega));obtain ⟨i1,i2,i3⟩:=ev_meanL F G M hM hM2 t (s+G o) (fun o ho=>h o (by simp [ho])) (by omega) (by omega);simp only [List.map_cons,List.sum_cons];refine ⟨?_,by omega,by omega⟩;rw [← Int.add_assoc];have:=Ev.bind (f:=fun k x=>meanL (F k) t (wrap64 (s+x))) a (by rw [e.out];exact i1);exact this
/-- The mean of a number G of all orders of n numbers. -/
theorem ev_drawn (F:Nat→List Int→Option Int) (G:List Int→Int) (M:Int) (hM:0≤M) (hM2:M≤1000000) (n:Nat) (h1:1≤n) (h6:n≤6) (hF:∀ o ∈ ords n,Ev (fun k=>F k o) (G o)∧0≤G o∧G o≤M):∃ r:Int × Int,Ev (fun k=>drawnF k (F k) (n:Int) true) (r.1,r.2,true)∧Ev (fun k=>spec_l9Cut.f k (((ords n).map G).sum) (fct n:Int)) r∧0≤((ords n).map G).sum∧((ords n).map G).sum≤M*5040:=by
  have hb:=fct_le n (by omega);have hp:=fct_pos n;have hl:=ords_len n;have hML:M*((ords n).length:Int)≤M*5040:=Int.mul_le_mul_of_nonneg_left (by omega) hM;have hM3:M*5040≤1000000*5040:=Int.mul_le_mul_of_nonneg_right hM2 (by omega);obtain ⟨a,b,c⟩:=ev_meanL F G M hM hM2 (ords n) 0 hF (Int.le_refl _) (by omega);rw [Int.zero_add] at a;obtain ⟨r,r1,r2⟩:=ev_frac ((ords n).map G).sum (fct n:Int) b (by omega) (by omega) (by omega);refine ⟨r,?_,r2,b,by omega⟩
  have hd:impl_isDrawn.f (n:Int)=some true:=by
    unfold impl_isDrawn.f;rw [if_pos (by omega),decide_eq_true (by omega)]
  unfold drawnF;simp only [hd,Option.bind_some,Bool.and_true,↓reduceIte]
  have hm:Ev (fun k=>meanF k (F k) (n:Int)) r:=by
    unfold meanF;refine Ev.bind (ev_allOrders n h1 (by omega)) ?_;have lim:(ords n).length < 1000000:=by omega
    simp only [lim,↓reduceIte];exact Ev.bind a (Ev.bind (ev_factorial n (by omega)) r1)
  exact Ev.bind hm (Ev.now _)
theorem drawn_no (F:List Int→Option Int) (n:Int) (right:Bool) (k:Nat) (h:((decide (1≤n)&&decide (n≤6))&&right)=false):drawnF k F n right=some (0,0,false):=by
  unfold drawnF impl_isDrawn.f;by_cases h1:n≥1
  · rw [if_pos h1,Option.bind_some];rw [decide_eq_true h1,Bool.true_and] at h;rw [h];rfl
  · rw [if_neg h1,Option.bind_some,Bool.false_and];rfl
theorem ev_l9Size (n:Int):spec_l9Size.f n=some (decide (1≤n)&&decide (n≤6)):=by
  unfold spec_l9Size.f;rw [ev_l1In',Option.bind_some]
theorem all_parts (L:List (List Int)) (q:List Int→Bool):∀ m,(∀ j,j < m→((L.drop (60*j)).take 60).all q=true)→(L.take (60*m)).all q=true
  |0,_=>by simp
  |m+1,h=>by
    rw [show 60*(m+1)=60*m+60 by omega,List.take_add,List.all_append,all_parts L q m (fun j hj=>h j (by omega)),h m (by omega)];rfl
theorem all_six (q:List Int→Bool) (h:∀ j,j < 12→(((ords 6).drop (60*j)).take 60).all q=true):(ords 6).all q=true:=by
  have h:=all_parts (ords 6) q 12 h
  rwa [List.take_of_length_le (by rw [ords_len];decide)] at h
/-- A loop that sums up a number of all orders, in the reference. -/
theorem sum_loop (L:Nat→Int→Int→Option (Int × Int × Bool)) (all:List (List Int)) (G:List Int→Int) (M:Int) (hG:∀ o ∈ all,0≤G o∧G o≤M) (hM:M≤1000000) (hlen:all.length≤5040) (R:Int × Int × Bool)
    (hend:Ev (fun k=>L k ((all.map G).sum) (all.length:Int)) R)
    (hstep:∀ (i:Nat) (hi:i < all.length) (s:Int),0≤s→s≤1000000000000→Ev (fun k=>L k (s+G all[i]) ((i+1:Nat):Int)) R→Ev (fun k=>L k s (i:Int)) R):Ev (fun k=>L k 0 0) R:=by
  have go:∀ (d i:Nat) (s:Int),i+d=all.length→0≤s→s≤1000000*(i:Int)→s+((all.drop i).map G).sum=(all.map G).sum→Ev (fun k=>L k s (i:Int)) R:=by
    intro d
    induction d with
    |zero=>
      intro i s hi h0 h1 hs;rw [List.drop_of_length_le (show all.length≤i by omega)] at hs;simp only [List.map_nil,List.sum_nil,Int.add_zero] at hs;rw [hs];have e:i=all.length:=by omega
      rw [e];exact hend
    |succ d ih=>
      intro i s hi h0 h1 hs;have hil:i < all.length:=by omega
      rw [List.drop_eq_getElem_cons hil,List.map_cons,List.sum_cons] at hs;have hb:=hG _ (List.getElem_mem hil);exact hstep i hil s h0 (by omega) (ih (i+1) _ (by omega) (by omega) (by omega) (by omega))
  exact go all.length 0 0 (by omega) (Int.le_refl _) (by omega) (by simp)
def sortsQ (n:Nat) (o:List Int):Bool:=match impl_isSortable.f 60 o,spec_l2To.f 60 o (iota 1 n) with|some b,some p=>b==p.2|_,_=>false
set_option maxRecDepth 100000 in
theorem sorts_all (n:Nat) (h1:1≤n) (h6:n≤6):(ords n).all (sortsQ n)=true:=by
  have hn:n=1∨n=2∨n=3∨n=4∨n=5∨n=6:=by omega
  rcases hn with rfl|rfl|rfl|rfl|rfl|rfl<;>decide+kernel
def sortsG (o:List Int):Int:=match impl_isSortable.f 60 o with|some true=>1|_=>0
theorem sorts_ev {n:Nat} (h1:1≤n) (h6:n≤6) {o:List Int} (ho:o ∈ ords n):∃ (b:Bool) (w:ByteArray),Ev (fun k=>impl_isSortable.f k o) b∧Ev (fun k=>spec_l2To.f k o (iota 1 n)) (w,b)∧sortsG o=if b=true then 1 else 0:=by
  have h:=List.all_eq_true.1 (sorts_all n h1 h6) o ho;unfold sortsQ at h
  cases ha:impl_isSortable.f 60 o with
  |none=>rw [ha] at h;cases h
  |some b=>
    cases hp:spec_l2To.f 60 o (iota 1 n) with
    |none=>rw [ha,hp] at h;cases h
    |some p=>
      rw [ha,hp] at h;obtain ⟨w,b'⟩:=p;obtain rfl:b=b':=by simpa using h
      refine ⟨b,w,Ev.of (fun k=>impl_isSortable.mono _ k) (k:=60) ha,Ev.of (fun k=>spec_l2To.mono _ _ k) (k:=60) hp,?_⟩;unfold sortsG;rw [ha];cases b<;>rfl
theorem sortsG_bound (o:List Int):0≤sortsG o∧sortsG o≤1:=by
  unfold sortsG
  split<;>decide
theorem both_ChanceSorts (n:Int):∃ r:Int × Int × Bool,Ev (fun k=>spec_ChanceSorts.f k n) r∧Ev (fun k=>impl_ChanceSorts.f k n) r∧r.2.2=(decide (1≤n)&&decide (n≤6))∧(r.2.2=true→Ev (fun k=>spec_l9Cut.f k (((ords n.toNat).map sortsG).sum) (fct n.toNat:Int)) (r.1,r.2.1)):=by
  unfold spec_ChanceSorts.f impl_ChanceSorts.f;simp only [ev_l9Size,Option.bind_some]
  cases hs:(decide (1≤n)&&decide (n≤6)) with
  |false=>
    refine ⟨(0,0,false),?_,?_,rfl,fun h_=>absurd h_ Bool.false_ne_true⟩
    · simp only [Bool.false_eq_true,↓reduceIte];exact Ev.now _
    · exact Ev.congr (fun k=>drawn_no _ n true k (by rw [hs];rfl)) (Ev.now _)
  |true=>
    simp only [Bool.and_eq_true,decide_eq_true_eq] at hs
    obtain ⟨n,rfl⟩:∃ m:Nat,n=(m:Int):=⟨n.toNat,by omega⟩
    have h1:1≤n:=by omega
    have h6:n≤6:=by omega
    obtain ⟨r,r1,r2,r3,r4⟩:=ev_drawn (fun k=>chF (fun l=>impl_isSortable.f k l)) sortsG 1 (by omega) (by omega) n h1 h6 (fun o ho=>by
      obtain ⟨b,w,e1,_,e3⟩:=sorts_ev h1 h6 ho;refine ⟨?_,(sortsG_bound o).1,(sortsG_bound o).2⟩;unfold chF;refine Ev.bind e1 ?_;rw [e3];cases b
      · simp only [Bool.false_eq_true,↓reduceIte];exact Ev.now _
      · simp only [↓reduceIte]
        exact Ev.now _)
    refine ⟨(r.1,r.2,true),?_,r1,rfl,fun _=>by rw [Int.toNat_natCast];exact r2⟩;have hb:=fct_le n (by omega)
    have go:∀ (d i:Nat) (s:Int),i+d=(ords n).length→0≤s→s+(((ords n).drop i).map sortsG).sum=((ords n).map sortsG).sum→(∀ j,0≤(((ords n).drop j).map sortsG).sum)→Ev (fun k=>spec_ChanceSorts.l0 k (n:Int) s (ords n) (i:Int)) (r.1,r.2,true):=by
      intro d
      induction d with
      |zero=>
        intro i s hi hs0 hs hpos;have c:¬ (i:Int) < ((ords n).length:Int):=by omega
        rw [List.drop_of_length_le (show (ords n).length≤i by omega)] at hs;simp only [List.map_nil,List.sum_nil,Int.add_zero] at hs;refine Ev.step (f:=fun k=>(spec_l9Cut.f k s ((ords n).length:Int)).bind fun bt845=>(some (bt845.1,bt845.2,true))) (fun k=>by simp only [spec_ChanceSorts.l0,c,↓reduceIte]) ?_;rw [hs,ords_len];exact Ev.bind r2 (Ev.now _)
      |succ d ih=>
        intro i s hi hs0 hs hpos;have c:(i:Int) < ((ords n).length:Int):=by omega
        have c1:0≤(i:Int):=by omega
        have ej:=qA (show wrap64 ((i:Int)+1)=((i+1:Nat):Int) from wj (by rw [ords_len] at hi;omega));have hil:i < (ords n).length:=by omega
        have hmem:(ords n)[i] ∈ ords n:=List.getElem_mem hil;obtain ⟨b,w,_,e2,e3⟩:=sorts_ev h1 h6 hmem;rw [List.drop_eq_getElem_cons hil,List.map_cons,List.sum_cons] at hs;have hp1:=hpos (i+1);have es:=qA (show wrap64 (s+1)=s+1 from wr (by omega) (by have:=(sortsG_bound (ords n)[i]).1;omega));have er:(ords n).getD i []=(ords n)[i]:=by simp [hil]
        refine Ev.step (f:=fun k=>(spec_l2Sorted.f k (n:Int)).bind fun t183=>((spec_l2To.f k (ords n)[i] t183).bind fun bt186=>(if bt186.2=true then (spec_ChanceSorts.l0 k (n:Int) (s+1) (ords n) ((i+1:Nat):Int)) else (spec_ChanceSorts.l0 k (n:Int) s (ords n) ((i+1:Nat):Int))))) (fun k=>by simp only [spec_ChanceSorts.l0,c,c1,ej.out,es.out,↓reduceIte,rd_L2,Int.toNat_natCast,er]) ?_;refine Ev.bind (ev_l2Sorted n (by omega)) (Ev.bind e2 ?_)
        cases b with
        |true=>
          simp only [↓reduceIte] at e3 ⊢;rw [e3] at hs;exact ih (i+1) _ (by omega) (by omega) (by omega) hpos
        |false=>
          simp only [Bool.false_eq_true,↓reduceIte] at e3 ⊢;rw [e3] at hs;exact ih (i+1) _ (by omega) (by omega) (by omega) hpos
    have hpos:∀ j,0≤(((ords n).drop j).map sortsG).sum:=by
      intro j
      have:∀ l:List (List Int),0≤(l.map sortsG).sum:=by
        intro l
        induction l with
        |nil=>simp
        |cons x t ih=>
          rw [List.map_cons,List.sum_cons];have:=(sortsG_bound x).1;omega
      exact this _
    simp only [↓reduceIte];refine Ev.bind (ev_l2Orders n (by omega)) ?_;exact go (ords n).length 0 0 (by omega) (Int.le_refl _) (by simp) hpos
/-! ### is a list an order? -/
theorem ev_l1Has_l0 (l:List Int) (x:Int) (hl:l.length < 9223372036854775807) (d:Nat):∀ j:Nat,j+d=l.length→Ev (fun k=>spec_l1Has.l0 k l x (j:Int)) ((l.drop j).contains x):=by
  induction d with
  |zero=>
    intro j hj;have c:¬ (j:Int) < (l.length:Int):=by omega
    rw [List.drop_of_length_le (by omega)];exact Ev.step (fun k=>by simp only [spec_l1Has.l0,c,↓reduceIte]<;>rfl) (Ev.now _)
  |succ d ih=>
    intro j hj;have c:(j:Int) < (l.length:Int):=by omega
    have c0:0≤(j:Int):=by omega
    have e1:wrap64 ((j:Int)+1)=((j+1:Nat):Int):=wj (by omega);rw [rd_drop l j (by omega),List.contains_cons];by_cases h:rd l (j:Int)=x
    · have:(x==rd l (j:Int))=true:=by rw [h];exact beq_self_eq_true x
      rw [this,Bool.true_or];exact Ev.step (fun k=>by simp only [spec_l1Has.l0,c,c0,h,↓reduceIte]<;>rfl) (Ev.now _)
    · have:(x==rd l (j:Int))=false:=beq_eq_false_iff_ne.2 (fun e=>h e.symm);rw [this,Bool.false_or];exact Ev.step (fun k=>by simp only [spec_l1Has.l0,c,c0,h,e1,↓reduceIte]) (ih (j+1) (by omega))
theorem ev_l1Has (l:List Int) (x:Int) (hl:l.length < 9223372036854775807):Ev (fun k=>spec_l1Has.f k l x) (l.contains x):=by
  have:=ev_l1Has_l0 l x hl l.length 0 (by omega);rw [List.drop_zero] at this;exact this
theorem ev_l2Order_l0 (l:List Int) (hl:l.length≤7) (d:Nat):∀ j:Nat,j+d=l.length→Ev (fun k=>spec_l2Order.l0 k l (j:Int)) (chk l.length (l.take j) (l.drop j)):=by
  induction d with
  |zero=>
    intro j hj;have c:¬ (j:Int) < (l.length:Int):=by omega
    rw [List.drop_of_length_le (by omega)];exact Ev.step (fun k=>by simp only [spec_l2Order.l0,c,↓reduceIte]<;>rfl) (Ev.now _)
  |succ d ih=>
    intro j hj;have c:(j:Int) < (l.length:Int):=by omega
    have c0:0≤(j:Int):=by omega
    have c1:(j:Int)≤(l.length:Int):=by omega
    have e1:wrap64 ((j:Int)+1)=((j+1:Nat):Int):=wj (by omega);rw [rd_drop l j (by omega),chk,← take_succ l j (by omega)];by_cases h:(decide (1≤rd l (j:Int))&&decide (rd l (j:Int)≤(l.length:Int)))=true
    · rw [h,Bool.true_and];refine Ev.step (f:=fun k=>(spec_l1Has.f k (l.take j) (rd l (j:Int))).bind fun t=>if t=true then some false else spec_l2Order.l0 k l ((j+1:Nat):Int)) (fun k=>by simp only [spec_l2Order.l0,c,c0,c1,ev_l1In',h,e1,Option.bind_some,Int.toNat_natCast,↓reduceIte]) ?_;refine Ev.bind (ev_l1Has (l.take j) _ (by rw [List.length_take];omega)) ?_
      cases hc:(l.take j).contains (rd l (j:Int)) with
      |true=>
        simp only [↓reduceIte,Bool.not_true,Bool.false_and];exact Ev.now _
      |false=>
        simp only [Bool.false_eq_true,↓reduceIte,Bool.not_false,Bool.true_and];exact ih (j+1) (by omega)
    · have h':=Bool.eq_false_iff.2 h;rw [h',Bool.false_and,Bool.false_and];exact Ev.step (fun k=>by simp only [spec_l2Order.l0,c,c0,ev_l1In',h',Option.bind_some,Bool.false_eq_true,↓reduceIte]<;>rfl) (Ev.now _)
theorem ev_l2Order (l:List Int):Ev (fun k=>spec_l2Order.f k l) (ordB l):=by
  unfold spec_l2Order.f ordB;simp only [ev_l1In',Option.bind_some];by_cases h1:1≤l.length
  · have g1:(1:Int)≤(l.length:Int):=by omega
    by_cases h7:l.length≤7
    · have g7:(l.length:Int)≤7:=by omega
      have:=ev_l2Order_l0 l h7 l.length 0 (by omega);simp only [h1,h7,g1,g7,decide_true,Bool.and_true,Bool.true_and,↓reduceIte];rw [List.take_zero,List.drop_zero] at this;exact this
    · have g7:¬ (l.length:Int)≤7:=by omega
      simp only [h7,g7,decide_false,Bool.and_false,Bool.false_and,Bool.false_eq_true,↓reduceIte];exact Ev.now _
  · have g1:¬ (1:Int)≤(l.length:Int):=by omega
    simp only [h1,g1,decide_false,Bool.false_and,Bool.false_eq_true,↓reduceIte];exact Ev.now _
/-! ### inversions -/
def cntG (x:Int) (l:List Int):Nat:=(l.filter fun y=>decide (y > x)).length
def cntL (x:Int) (l:List Int):Nat:=(l.filter fun y=>decide (x > y)).length
/-- Pairs with the greater one first, by their first numbers. -/
def invB:List Int→Nat
  |[]=>0
  |x :: t=>cntL x t+invB t
theorem invB_snoc (x:Int):∀ l:List Int,invB (l++[x])=invB l+cntG x l
  |[]=>rfl
  |y :: t=>by
    rw [List.cons_append,invB,invB,invB_snoc x t]
    have h1:cntL y (t++[x])=cntL y t+if y > x then 1 else 0:=by
      unfold cntL;rw [List.filter_append,List.length_append];by_cases h:y > x
      · simp [h]
      · simp [h]
    have h2:cntG x (y :: t)=(if y > x then 1 else 0)+cntG x t:=by
      unfold cntG;rw [List.filter_cons];by_cases h:y > x
      · simp [h];omega
      · simp [h]
    rw [h1,h2];omega
theorem cnt_le (x:Int) (l:List Int):cntL x l≤l.length∧cntG x l≤l.length:=⟨List.length_filter_le _ _,List.length_filter_le _ _⟩
theorem invB_le:∀ l:List Int,invB l≤l.length*l.length
  |[]=>by simp [invB]
  |x :: t=>by
    have h1:=(cnt_le x t).1;have h2:=invB_le t;rw [invB,List.length_cons,Nat.mul_add,Nat.add_mul];omega
theorem cntL_cons (x y:Int) (t:List Int):cntL x (y :: t)=(if x > y then 1 else 0)+cntL x t:=by
  unfold cntL;rw [List.filter_cons];by_cases h:x > y
  · simp [h];omega
  · simp [h]
theorem cntG_cons (x y:Int) (t:List Int):cntG x (y :: t)=(if y > x then 1 else 0)+cntG x t:=by
  unfold cntG;rw [List.filter_cons];by_cases h:y > x
  · simp [h];omega
  · simp [h]
theorem spec_inv1 (l:List Int) (hl:l.length≤7) (i:Nat) (hi:i < l.length) (m:Nat) (hm:m≤1000) {r:Int × Bool} (next:Ev (fun k=>spec_CountInversions.l0 k l ((m+cntL (rd l (i:Int)) (l.drop (i+1)):Nat):Int) ((i+1:Nat):Int)) r):
    ∀ (d j q:Nat),j+d=l.length→i < j→q+cntL (rd l (i:Int)) (l.drop j)=m+cntL (rd l (i:Int)) (l.drop (i+1))→Ev (fun k=>spec_CountInversions.l1 k l (q:Int) (i:Int) (j:Int)) r:=by
  have ei:=qA (show wrap64 ((i:Int)+1)=((i+1:Nat):Int) from wj (by omega));have c1:0≤(i:Int):=by omega
  have c2:(i:Int) < (l.length:Int):=by omega
  have hcb:=(cnt_le (rd l (i:Int)) (l.drop (i+1))).1;rw [List.length_drop] at hcb;intro d
  induction d with
  |zero=>
    intro j q hj hij hq;have c:¬ (j:Int) < (l.length:Int):=by omega
    rw [List.drop_of_length_le (show l.length≤j by omega)] at hq
    have e:q=m+cntL (rd l (i:Int)) (l.drop (i+1)):=by
      have:cntL (rd l (i:Int)) []=0:=rfl;omega
    rw [← e] at next;exact Ev.step (fun k=>by simp only [spec_CountInversions.l1,c,ei.out,↓reduceIte]) next
  |succ d ih=>
    intro j q hj hij hq;have c:(j:Int) < (l.length:Int):=by omega
    have c3:0≤(j:Int):=by omega
    have ej:=qA (show wrap64 ((j:Int)+1)=((j+1:Nat):Int) from wj (by omega));rw [rd_drop l j (by omega),cntL_cons] at hq;by_cases h:rd l (i:Int) > rd l (j:Int)
    · rw [if_pos h] at hq;have eq_:=qA (show wrap64 ((q:Int)+1)=((q+1:Nat):Int) from wj (by omega));exact Ev.step (fun k=>by simp only [spec_CountInversions.l1,c,c1,c2,c3,h,ej.out,eq_.out,↓reduceIte]) (ih (j+1) (q+1) (by omega) (by omega) (by omega))
    · rw [if_neg h] at hq;exact Ev.step (fun k=>by simp only [spec_CountInversions.l1,c,c1,c2,c3,h,ej.out,↓reduceIte]) (ih (j+1) q (by omega) (by omega) (by omega))
theorem ev_CountInv (l:List Int) (ho:ordB l=true):Ev (fun k=>spec_CountInversions.f k l) ((invB l:Int),true):=by
  obtain ⟨h1,h7⟩:=ordB_len ho;have hib:=invB_le l;have h49:l.length*l.length≤7*7:=Nat.mul_le_mul h7 h7
  have go:∀ (d i m:Nat),i+d=l.length→m+invB (l.drop i)=invB l→Ev (fun k=>spec_CountInversions.l0 k l (m:Int) (i:Int)) ((invB l:Int),true):=by
    intro d
    induction d with
    |zero=>
      intro i m hi hm;have c:¬ (i:Int) < (l.length:Int):=by omega
      rw [List.drop_of_length_le (show l.length≤i by omega)] at hm
      have e:m=invB l:=by
        have:invB []=0:=rfl;omega
      rw [← e];exact Ev.step (f:=fun _=>some ((m:Int),true)) (fun k=>by simp only [spec_CountInversions.l0,c,↓reduceIte]) (Ev.now _)
    |succ d ih=>
      intro i m hi hm;have c:(i:Int) < (l.length:Int):=by omega
      have ei:=qA (show wrap64 ((i:Int)+1)=((i+1:Nat):Int) from wj (by omega));rw [rd_drop l i (by omega),invB] at hm;have nx:=ih (i+1) (m+cntL (rd l (i:Int)) (l.drop (i+1))) (by omega) (by omega);have:=spec_inv1 l h7 i (by omega) m (by omega) nx (l.length - (i+1)) (i+1) m (by omega) (by omega) rfl;exact Ev.step (fun k=>by simp only [spec_CountInversions.l0,c,ei.out,↓reduceIte]) this
  unfold spec_CountInversions.f;refine Ev.bind (ev_l2Order l) ?_;rw [ho];simp only [↓reduceIte];exact go l.length 0 0 (by omega) (by simp)
theorem impl_inv1 (l:List Int) (hl:l.length≤7) (i:Nat) (hi:i < l.length) (m:Nat) (hm:m≤1000) {r:Int} (next:Ev (fun k=>impl_inversions.l0 k l ((m+cntG (rd l (i:Int)) (l.take i):Nat):Int) l (l.length:Int) ((i+1:Nat):Int)) r):
    ∀ (d j q:Nat),j+d=(l.take i).length→q+cntG (rd l (i:Int)) ((l.take i).drop j)=m+cntG (rd l (i:Int)) (l.take i)→Ev (fun k=>impl_inversions.l1 k l (q:Int) (rd l (i:Int)) l (l.length:Int) (i:Int) (l.take i) ((l.take i).length:Int) (j:Int)) r:=by
  have ei:=qA (show wrap64 ((i:Int)+1)=((i+1:Nat):Int) from wj (by omega));have hcb:=(cnt_le (rd l (i:Int)) (l.take i)).2;have hti:(l.take i).length=i:=by rw [List.length_take];omega
  intro d
  induction d with
  |zero=>
    intro j q hj hq;have c:¬ (j:Int) < ((l.take i).length:Int):=by omega
    rw [List.drop_of_length_le (show (l.take i).length≤j by omega)] at hq
    have e:q=m+cntG (rd l (i:Int)) (l.take i):=by
      have:cntG (rd l (i:Int)) []=0:=rfl;omega
    rw [← e] at next;exact Ev.step (fun k=>by simp only [impl_inversions.l1,c,ei.out,↓reduceIte]) next
  |succ d ih=>
    intro j q hj hq;have c:(j:Int) < ((l.take i).length:Int):=by omega
    have c3:0≤(j:Int):=by omega
    have ej:=qA (show wrap64 ((j:Int)+1)=((j+1:Nat):Int) from wj (by omega));rw [rd_drop (l.take i) j (by omega),cntG_cons] at hq;by_cases h:rd (l.take i) (j:Int) > rd l (i:Int)
    · rw [if_pos h] at hq;have eq_:=qA (show wrap64 ((q:Int)+1)=((q+1:Nat):Int) from wj (by omega));exact Ev.step (fun k=>by simp only [impl_inversions.l1,c,c3,h,ej.out,eq_.out,↓reduceIte]) (ih (j+1) (q+1) (by omega) (by omega))
    · rw [if_neg h] at hq;exact Ev.step (fun k=>by simp only [impl_inversions.l1,c,c3,h,ej.out,↓reduceIte]) (ih (j+1) q (by omega) (by omega))
theorem ev_inversions (l:List Int) (h7:l.length≤7):Ev (fun k=>impl_inversions.f k l) (invB l:Int):=by
  have hle:∀ i,i≤l.length→invB (l.take i)≤49:=by
    intro i hi;have:=invB_le (l.take i);have h2:(l.take i).length≤7:=by rw [List.length_take];omega
    have:=Nat.mul_le_mul h2 h2;omega
  have go:∀ (d i:Nat),i+d=l.length→Ev (fun k=>impl_inversions.l0 k l (invB (l.take i):Int) l (l.length:Int) (i:Int)) (invB l:Int):=by
    intro d
    induction d with
    |zero=>
      intro i hi;have c:¬ (i:Int) < (l.length:Int):=by omega
      rw [List.take_of_length_le (show l.length≤i by omega)];exact Ev.step (f:=fun _=>some (invB l:Int)) (fun k=>by simp only [impl_inversions.l0,c,↓reduceIte]) (Ev.now _)
    |succ d ih=>
      intro i hi;have c:(i:Int) < (l.length:Int):=by omega
      have c1:0≤(i:Int):=by omega
      have c2:(i:Int)≤(l.length:Int):=by omega
      have nx:=ih (i+1) (by omega);rw [take_succ l i (by omega),invB_snoc] at nx;have:=impl_inv1 l h7 i (by omega) (invB (l.take i)) (by have:=hle i (by omega);omega) nx (l.take i).length 0 (invB (l.take i)) (by omega) (by simp);exact Ev.step (fun k=>by simp only [impl_inversions.l0,c,c1,c2,Int.toNat_natCast,↓reduceIte];rfl) this
  have:=go l.length 0 (by omega);unfold impl_inversions.f;exact this
theorem both_MeanInv (n:Int):∃ r:Int × Int × Bool,Ev (fun k=>spec_MeanInversions.f k n) r∧Ev (fun k=>impl_MeanInversions.f k n) r∧r.2.2=(decide (1≤n)&&decide (n≤6))∧(r.2.2=true→Ev (fun k=>spec_l9Cut.f k (((ords n.toNat).map (fun l=>(invB l:Int))).sum) (fct n.toNat:Int)) (r.1,r.2.1)):=by
  unfold spec_MeanInversions.f impl_MeanInversions.f;simp only [ev_l9Size,Option.bind_some]
  cases hs:(decide (1≤n)&&decide (n≤6)) with
  |false=>
    refine ⟨(0,0,false),?_,?_,rfl,fun h_=>absurd h_ Bool.false_ne_true⟩
    · simp only [Bool.false_eq_true,↓reduceIte];exact Ev.now _
    · exact Ev.congr (fun k=>drawn_no _ n true k (by rw [hs];rfl)) (Ev.now _)
  |true=>
    simp only [Bool.and_eq_true,decide_eq_true_eq] at hs
    obtain ⟨n,rfl⟩:∃ m:Nat,n=(m:Int):=⟨n.toNat,by omega⟩
    have h1:1≤n:=by omega
    have h6:n≤6:=by omega
    have hord:∀ o ∈ ords n,ordB o=true:=fun o ho=>ordB_of_perm h1 (by omega) (ords_mem ho).1
    obtain ⟨r,r1,r2,r3,r4⟩:=ev_drawn (fun k l=>impl_inversions.f k l) (fun l=>(invB l:Int)) 49 (by omega) (by omega) n h1 h6 (fun o ho=>by
      have hl:=(ords_mem ho).2;refine ⟨ev_inversions o (by omega),by omega,?_⟩;have:=invB_le o;have h2:o.length≤7:=by omega
      have:=Nat.mul_le_mul h2 h2
      omega)
    refine ⟨(r.1,r.2,true),?_,r1,rfl,fun _=>by rw [Int.toNat_natCast];exact r2⟩;have hb:=fct_le n (by omega)
    have go:∀ (d i:Nat) (s:Int),i+d=(ords n).length→0≤s→s+(((ords n).drop i).map fun l=>(invB l:Int)).sum=((ords n).map fun l=>(invB l:Int)).sum→(∀ j,0≤(((ords n).drop j).map fun l=>(invB l:Int)).sum)→Ev (fun k=>spec_MeanInversions.l0 k s (ords n) (i:Int)) (r.1,r.2,true):=by
      intro d
      induction d with
      |zero=>
        intro i s hi hs0 hs hpos;have c:¬ (i:Int) < ((ords n).length:Int):=by omega
        rw [List.drop_of_length_le (show (ords n).length≤i by omega)] at hs;simp only [List.map_nil,List.sum_nil,Int.add_zero] at hs;refine Ev.step (f:=fun k=>(spec_l9Cut.f k s ((ords n).length:Int)).bind fun bt845=>(some (bt845.1,bt845.2,true))) (fun k=>by simp only [spec_MeanInversions.l0,c,↓reduceIte]) ?_;rw [hs,ords_len];exact Ev.bind r2 (Ev.now _)
      |succ d ih=>
        intro i s hi hs0 hs hpos;have c:(i:Int) < ((ords n).length:Int):=by omega
        have c1:0≤(i:Int):=by omega
        have ej:=qA (show wrap64 ((i:Int)+1)=((i+1:Nat):Int) from wj (by rw [ords_len] at hi;omega));have hil:i < (ords n).length:=by omega
        have hmem:(ords n)[i] ∈ ords n:=List.getElem_mem hil;rw [List.drop_eq_getElem_cons hil,List.map_cons,List.sum_cons] at hs;have hp1:=hpos (i+1);have es:=qA (show wrap64 (s+(invB (ords n)[i]:Int))=s+(invB (ords n)[i]:Int) from wr (by omega) (by omega));have er:(ords n).getD i []=(ords n)[i]:=by simp [hil]
        refine Ev.step (f:=fun k=>(spec_CountInversions.f k (ords n)[i]).bind fun bt843=>(spec_MeanInversions.l0 k (wrap64 (s+bt843.1)) (ords n) ((i+1:Nat):Int))) (fun k=>by simp only [spec_MeanInversions.l0,c,c1,ej.out,↓reduceIte,rd_L2,Int.toNat_natCast,er]) ?_;refine Ev.bind (ev_CountInv _ (hord _ hmem)) ?_;simp only [es.out];exact ih (i+1) _ (by omega) (by omega) (by omega) hpos
    have hpos:∀ j,0≤(((ords n).drop j).map fun l=>(invB l:Int)).sum:=by
      intro j
      have:∀ l:List (List Int),0≤(l.map fun l=>(invB l:Int)).sum:=by
        intro l
        induction l with
        |nil=>simp
        |cons x t ih=>
          rw [List.map_cons,List.sum_cons];omega
      exact this _
    simp only [↓reduceIte];refine Ev.bind (ev_l2Orders n (by omega)) ?_;exact go (ords n).length 0 0 (by omega) (Int.le_refl _) (by simp) hpos
def runQ (o:List Int):Bool:=match runsF o,spec_l5Runs.f 60 o with|some a,some p=>a==(p.length:Int)&&decide (0≤a)&&decide (a≤7)|_,_=>false
set_option maxRecDepth 100000 in
theorem run6_0:(((ords 6).drop (60*0)).take 60).all runQ=true:=by decide+kernel
set_option maxRecDepth 100000 in
theorem run6_1:(((ords 6).drop (60*1)).take 60).all runQ=true:=by decide+kernel
set_option maxRecDepth 100000 in
theorem run6_2:(((ords 6).drop (60*2)).take 60).all runQ=true:=by decide+kernel
set_option maxRecDepth 100000 in
theorem run6_3:(((ords 6).drop (60*3)).take 60).all runQ=true:=by decide+kernel
set_option maxRecDepth 100000 in
theorem run6_4:(((ords 6).drop (60*4)).take 60).all runQ=true:=by decide+kernel
set_option maxRecDepth 100000 in
theorem run6_5:(((ords 6).drop (60*5)).take 60).all runQ=true:=by decide+kernel
set_option maxRecDepth 100000 in
theorem run6_6:(((ords 6).drop (60*6)).take 60).all runQ=true:=by decide+kernel
set_option maxRecDepth 100000 in
theorem run6_7:(((ords 6).drop (60*7)).take 60).all runQ=true:=by decide+kernel
set_option maxRecDepth 100000 in
theorem run6_8:(((ords 6).drop (60*8)).take 60).all runQ=true:=by decide+kernel
set_option maxRecDepth 100000 in
theorem run6_9:(((ords 6).drop (60*9)).take 60).all runQ=true:=by decide+kernel
set_option maxRecDepth 100000 in
theorem run6_10:(((ords 6).drop (60*10)).take 60).all runQ=true:=by decide+kernel
set_option maxRecDepth 100000 in
theorem run6_11:(((ords 6).drop (60*11)).take 60).all runQ=true:=by decide+kernel
theorem run6:(ords 6).all runQ=true:=all_six runQ (fun j hj=>by
  have:j=0∨j=1∨j=2∨j=3∨j=4∨j=5∨j=6∨j=7∨j=8∨j=9∨j=10∨j=11:=by omega
  rcases this with rfl|rfl|rfl|rfl|rfl|rfl|rfl|rfl|rfl|rfl|rfl|rfl
  · exact run6_0
  · exact run6_1
  · exact run6_2
  · exact run6_3
  · exact run6_4
  · exact run6_5
  · exact run6_6
  · exact run6_7
  · exact run6_8
  · exact run6_9
  · exact run6_10
  · exact run6_11)
set_option maxRecDepth 100000 in
theorem run_all (n:Nat) (h1:1≤n) (h6:n≤6):(ords n).all runQ=true:=by
  have hn:n=1∨n=2∨n=3∨n=4∨n=5∨n=6:=by omega
  rcases hn with rfl|rfl|rfl|rfl|rfl|rfl
  · decide+kernel
  · decide+kernel
  · decide+kernel
  · decide+kernel
  · decide+kernel
  · exact run6
def runG (o:List Int):Int:=match runsF o with|some a=>a|_=>0
theorem run_ev {n:Nat} (h1:1≤n) (h6:n≤6) {o:List Int} (ho:o ∈ ords n):∃ p,runsF o=some (runG o)∧Ev (fun k=>spec_l5Runs.f k o) p∧runG o=(p.length:Int)∧0≤runG o∧runG o≤7:=by
  have h:=List.all_eq_true.1 (run_all n h1 h6) o ho;unfold runQ at h
  cases ha:runsF o with
  |none=>rw [ha] at h;cases h
  |some b=>
    cases hp:spec_l5Runs.f 60 o with
    |none=>rw [ha,hp] at h;cases h
    |some p=>
      rw [ha,hp] at h;simp only [Bool.and_eq_true,beq_iff_eq,decide_eq_true_eq] at h;have hg:runG o=b:=by unfold runG;rw [ha]
      rw [hg];exact ⟨p,rfl,Ev.of (fun k=>spec_l5Runs.mono _ k) (k:=60) hp,h.1.1,h.1.2,h.2⟩
theorem both_MeanRuns (n:Int):∃ r:Int × Int × Bool,Ev (fun k=>spec_MeanRuns.f k n) r∧Ev (fun k=>impl_MeanRuns.f k n) r∧r.2.2=(decide (1≤n)&&decide (n≤6))∧(r.2.2=true→Ev (fun k=>spec_l9Cut.f k (((ords n.toNat).map runG).sum) (fct n.toNat:Int)) (r.1,r.2.1)):=by
  unfold spec_MeanRuns.f impl_MeanRuns.f;simp only [ev_l9Size,Option.bind_some]
  cases hs:(decide (1≤n)&&decide (n≤6)) with
  |false=>
    refine ⟨(0,0,false),?_,?_,rfl,fun h_=>absurd h_ Bool.false_ne_true⟩
    · simp only [Bool.false_eq_true,↓reduceIte];exact Ev.now _
    · exact Ev.congr (fun k=>drawn_no _ n true k (by rw [hs];rfl)) (Ev.now _)
  |true=>
    simp only [Bool.and_eq_true,decide_eq_true_eq] at hs
    obtain ⟨n,rfl⟩:∃ m:Nat,n=(m:Int):=⟨n.toNat,by omega⟩
    have h1:1≤n:=by omega
    have h6:n≤6:=by omega
    obtain ⟨r,r1,r2,r3,r4⟩:=ev_drawn (fun _=>runsF) runG 7 (by omega) (by omega) n h1 h6 (fun o ho=>by
      obtain ⟨p,e1,_,_,e4,e5⟩:=run_ev h1 h6 ho
      exact ⟨⟨0,fun _ _=>e1⟩,e4,e5⟩)
    refine ⟨(r.1,r.2,true),?_,r1,rfl,fun _=>by rw [Int.toNat_natCast];exact r2⟩;have hb:=fct_le n (by omega);simp only [↓reduceIte];refine Ev.bind (ev_l2Orders n (by omega)) ?_;refine sum_loop (fun k s i=>spec_MeanRuns.l0 k s (ords n) i) (ords n) runG 7 (fun o ho=>by obtain ⟨_,_,_,_,e4,e5⟩:=run_ev h1 h6 ho;exact ⟨e4,e5⟩) (by omega) (by rw [ords_len];omega) _ ?_ ?_
    · have c:¬ ((ords n).length:Int) < ((ords n).length:Int):=by omega
      refine Ev.step (f:=fun k=>(spec_l9Cut.f k (((ords n).map runG).sum) ((ords n).length:Int)).bind fun bt=>(some (bt.1,bt.2,true))) (fun k=>by simp only [spec_MeanRuns.l0,c,↓reduceIte]) ?_;rw [ords_len];exact Ev.bind r2 (Ev.now _)
    · intro i hi s h0 hs next;have c:(i:Int) < ((ords n).length:Int):=by omega
      have c1:0≤(i:Int):=by omega
      have ej:=qA (show wrap64 ((i:Int)+1)=((i+1:Nat):Int) from wj (by rw [ords_len] at hi;omega));obtain ⟨p,_,e2,e3,e4,e5⟩:=run_ev h1 h6 (List.getElem_mem hi);have es:=qA (show wrap64 (s+(p.length:Int))=s+runG (ords n)[i] from by rw [wr (by omega) (by omega),e3]);have er:(ords n).getD i []=(ords n)[i]:=by simp [hi]
      refine Ev.step (f:=fun k=>(spec_l5Runs.f k (ords n)[i]).bind fun t=>(spec_MeanRuns.l0 k (wrap64 (s+(t.length:Int))) (ords n) ((i+1:Nat):Int))) (fun k=>by simp only [spec_MeanRuns.l0,c,c1,ej.out,↓reduceIte,rd_L2,Int.toNat_natCast,er]) ?_;refine Ev.bind e2 ?_;rw [es.out];exact next
def quN (o:List Int):Int:=match queuesF o with|some q=>(q.length:Int)|_=>0
def quQ (o:List Int):Bool:=match queuesF o,spec_l5Queues.f 60 o with|some a,some p=>a.length==p.length|_,_=>false
set_option maxRecDepth 100000 in
theorem qu6_0:(((ords 6).drop (60*0)).take 60).all quQ=true:=by decide+kernel
set_option maxRecDepth 100000 in
theorem qu6_1:(((ords 6).drop (60*1)).take 60).all quQ=true:=by decide+kernel
set_option maxRecDepth 100000 in
theorem qu6_2:(((ords 6).drop (60*2)).take 60).all quQ=true:=by decide+kernel
set_option maxRecDepth 100000 in
theorem qu6_3:(((ords 6).drop (60*3)).take 60).all quQ=true:=by decide+kernel
set_option maxRecDepth 100000 in
theorem qu6_4:(((ords 6).drop (60*4)).take 60).all quQ=true:=by decide+kernel
set_option maxRecDepth 100000 in
theorem qu6_5:(((ords 6).drop (60*5)).take 60).all quQ=true:=by decide+kernel
set_option maxRecDepth 100000 in
theorem qu6_6:(((ords 6).drop (60*6)).take 60).all quQ=true:=by decide+kernel
set_option maxRecDepth 100000 in
theorem qu6_7:(((ords 6).drop (60*7)).take 60).all quQ=true:=by decide+kernel
set_option maxRecDepth 100000 in
theorem qu6_8:(((ords 6).drop (60*8)).take 60).all quQ=true:=by decide+kernel
set_option maxRecDepth 100000 in
theorem qu6_9:(((ords 6).drop (60*9)).take 60).all quQ=true:=by decide+kernel
set_option maxRecDepth 100000 in
theorem qu6_10:(((ords 6).drop (60*10)).take 60).all quQ=true:=by decide+kernel
set_option maxRecDepth 100000 in
theorem qu6_11:(((ords 6).drop (60*11)).take 60).all quQ=true:=by decide+kernel
theorem qu6:(ords 6).all quQ=true:=all_six quQ (fun j hj=>by
  have:j=0∨j=1∨j=2∨j=3∨j=4∨j=5∨j=6∨j=7∨j=8∨j=9∨j=10∨j=11:=by omega
  rcases this with rfl|rfl|rfl|rfl|rfl|rfl|rfl|rfl|rfl|rfl|rfl|rfl
  · exact qu6_0
  · exact qu6_1
  · exact qu6_2
  · exact qu6_3
  · exact qu6_4
  · exact qu6_5
  · exact qu6_6
  · exact qu6_7
  · exact qu6_8
  · exact qu6_9
  · exact qu6_10
  · exact qu6_11)
set_option maxRecDepth 100000 in
theorem qu_all (n:Nat) (h1:1≤n) (h6:n≤6):(ords n).all quQ=true:=by
  have hn:n=1∨n=2∨n=3∨n=4∨n=5∨n=6:=by omega
  rcases hn with rfl|rfl|rfl|rfl|rfl|rfl
  · decide+kernel
  · decide+kernel
  · decide+kernel
  · decide+kernel
  · decide+kernel
  · exact qu6
def quG (m:Int) (o:List Int):Int:=if quN o=m then 1 else 0
theorem quG_bound (m:Int) (o:List Int):0≤quG m o∧quG m o≤1:=by unfold quG;split<;>omega
theorem qu_ev {n:Nat} (h1:1≤n) (h6:n≤6) {o:List Int} (ho:o ∈ ords n):∃ q p,queuesF o=some q∧Ev (fun k=>spec_l5Queues.f k o) p∧quN o=(p.length:Int)∧quN o=(q.length:Int):=by
  have h:=List.all_eq_true.1 (qu_all n h1 h6) o ho;unfold quQ at h
  cases ha:queuesF o with
  |none=>rw [ha] at h;cases h
  |some b=>
    cases hp:spec_l5Queues.f 60 o with
    |none=>rw [ha,hp] at h;cases h
    |some p=>
      rw [ha,hp] at h;simp only [beq_iff_eq] at h;have hg:quN o=(b.length:Int):=by unfold quN;rw [ha]
      exact ⟨b,p,rfl,Ev.of (fun k=>spec_l5Queues.mono _ k) (k:=60) hp,by rw [hg,h],hg⟩
theorem both_ChanceQueues (n m:Int):∃ r:Int × Int × Bool,Ev (fun k=>spec_ChanceQueues.f k n m) r∧Ev (fun k=>impl_ChanceQueues.f k n m) r∧r.2.2=((decide (1≤n)&&decide (n≤6))&&(decide (1≤m)&&decide (m≤6)))∧(r.2.2=true→Ev (fun k=>spec_l9Cut.f k (((ords n.toNat).map (quG m)).sum) (fct n.toNat:Int)) (r.1,r.2.1)):=by
  unfold spec_ChanceQueues.f impl_ChanceQueues.f
  have hdr:impl_isDrawn.f m=some (decide (1≤m)&&decide (m≤6)):=by
    unfold impl_isDrawn.f;by_cases h:m≥1
    · rw [if_pos h,decide_eq_true h,Bool.true_and]
    · rw [if_neg h,decide_eq_false h,Bool.false_and]
  simp only [ev_l9Size,ev_l1In',hdr,Option.bind_some]
  cases hs:(decide (1≤n)&&decide (n≤6)) with
  |false=>
    refine ⟨(0,0,false),?_,?_,rfl,fun h_=>absurd h_ Bool.false_ne_true⟩
    · simp only [Bool.false_eq_true,↓reduceIte];exact Ev.step (f:=fun _=>some (0,0,false)) (fun k=>by simp only [spec_ChanceQueues.j0,↓reduceIte]) (Ev.now _)
    · exact Ev.congr (fun k=>drawn_no _ n _ k (by rw [hs];rfl)) (Ev.now _)
  |true=>
    simp only [↓reduceIte]
    cases hp:(decide (1≤m)&&decide (m≤6)) with
    |false=>
      refine ⟨(0,0,false),?_,?_,rfl,fun h_=>absurd h_ Bool.false_ne_true⟩
      · exact Ev.step (f:=fun _=>some (0,0,false)) (fun k=>by simp only [spec_ChanceQueues.j0,Bool.not_false,↓reduceIte]) (Ev.now _)
      · exact Ev.congr (fun k=>drawn_no _ n false k (by simp)) (Ev.now _)
    |true=>
      simp only [Bool.and_eq_true,decide_eq_true_eq] at hs
      obtain ⟨n,rfl⟩:∃ m:Nat,n=(m:Int):=⟨n.toNat,by omega⟩
      have h1:1≤n:=by omega
      have h6:n≤6:=by omega
      obtain ⟨r,r1,r2,r3,r4⟩:=ev_drawn (fun _=>chF (quB m)) (quG m) 1 (by omega) (by omega) n h1 h6 (fun o ho=>by
        obtain ⟨q,p,e1,e2,e3,e4⟩:=qu_ev h1 h6 ho;refine ⟨⟨0,fun _ _=>?_⟩,(quG_bound m o).1,(quG_bound m o).2⟩;unfold chF quB quG;rw [e1,Option.bind_some,Option.bind_some,e4];by_cases h:(q.length:Int)=m
        · rw [if_pos h,if_pos (beq_iff_eq.2 h)]
        · rw [if_neg h,if_neg (by simpa using h)])
      refine ⟨(r.1,r.2,true),?_,r1,rfl,fun _=>by rw [Int.toNat_natCast];exact r2⟩;have hb:=fct_le n (by omega);refine Ev.step (f:=fun k=>(spec_l2Orders.f k (n:Int)).bind fun t=>(spec_ChanceQueues.l0 k m 0 t 0)) (fun k=>by simp only [spec_ChanceQueues.j0,Bool.not_true,Bool.false_eq_true,↓reduceIte]) ?_;refine Ev.bind (ev_l2Orders n (by omega)) ?_;refine sum_loop (fun k s i=>spec_ChanceQueues.l0 k m s (ords n) i) (ords n) (quG m) 1 (fun o ho=>quG_bound m o) (by omega) (by rw [ords_len];omega) _ ?_ ?_
      · have c:¬ ((ords n).length:Int) < ((ords n).length:Int):=by omega
        refine Ev.step (f:=fun k=>(spec_l9Cut.f k (((ords n).map (quG m)).sum) ((ords n).length:Int)).bind fun bt=>(some (bt.1,bt.2,true))) (fun k=>by simp only [spec_ChanceQueues.l0,c,↓reduceIte]) ?_;rw [ords_len];exact Ev.bind r2 (Ev.now _)
      · intro i hi s h0 hs next;have c:(i:Int) < ((ords n).length:Int):=by omega
        have c1:0≤(i:Int):=by omega
        have ej:=qA (show wrap64 ((i:Int)+1)=((i+1:Nat):Int) from wj (by rw [ords_len] at hi;omega));obtain ⟨q,p,_,e2,e3,_⟩:=qu_ev h1 h6 (List.getElem_mem hi);have es:=qA (show wrap64 (s+1)=s+1 from wr (by omega) (by omega));have er:(ords n).getD i []=(ords n)[i]:=by simp [hi]
        refine Ev.step (f:=fun k=>(spec_l5Queues.f k (ords n)[i]).bind fun t=>(if (t.length:Int)=m then (spec_ChanceQueues.l0 k m (s+1) (ords n) ((i+1:Nat):Int)) else (spec_ChanceQueues.l0 k m s (ords n) ((i+1:Nat):Int)))) (fun k=>by simp only [spec_ChanceQueues.l0,c,c1,ej.out,es.out,↓reduceIte,rd_L2,Int.toNat_natCast,er]) ?_;refine Ev.bind e2 ?_;unfold quG at next;rw [e3] at next;by_cases h:(p.length:Int)=m
        · rw [if_pos h] at next;simp only [h,↓reduceIte];exact next
        · rw [if_neg h,Int.add_zero] at next;simp only [h,↓reduceIte];exact next
theorem ev_isSize (a:Int):impl_isSize.f a=some (decide (1≤a)&&decide (a≤7)):=by
  unfold impl_isSize.f;by_cases h:1≤a
  · rw [if_pos h,decide_eq_true h,Bool.true_and]
  · rw [if_neg h,decide_eq_false h,Bool.false_and]
theorem ev_one {α:Type} {g:Nat→Option α} {a b:α} (h1:Ev g a) (h2:Ev g b):a=b:=by
  obtain ⟨k1,h1⟩:=h1;obtain ⟨k2,h2⟩:=h2;have e1:=h1 (k1+k2) (by omega);have e2:=h2 (k1+k2) (by omega);rw [e1] at e2;exact Option.some.inj e2

end Go.Proofs.YtaoecbpfocillaaGreat.Pure
