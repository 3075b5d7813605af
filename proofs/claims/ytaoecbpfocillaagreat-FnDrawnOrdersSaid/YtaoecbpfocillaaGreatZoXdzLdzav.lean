/- What avoids patterns. -/
import Derived.Test.YtaoecbpfocillaaGreatZoXdzHdz
import Derived.Test.YtaoecbpfocillaaGreatZoXdz5
import Derived.Test.YtaoecbpfocillaaGreatZoXdz8
import Derived.Test.YtaoecbpfocillaaGreatZoXdz21
import Derived.Test.YtaoecbpfocillaaGreatZoXdz9
import Derived.Test.YtaoecbpfocillaaGreatZoXdz19
import Derived.Test.YtaoecbpfocillaaGreatZoXdz15
import Derived.Test.YtaoecbpfocillaaGreatZoXdz20
import Derived.Test.YtaoecbpfocillaaGreatZoXdz10
import Derived.Test.YtaoecbpfocillaaGreatZoPk
import Derived.Test.YtaoecbpfocillaaGreatZoXdzLdzbase
set_option linter.unusedVariables false
set_option linter.unusedSimpArgs false
namespace Go.Proofs.YtaoecbpfocillaaGreat.Pure
open Go.RowKit Go.Proofs.YtaoecbpfocillaaGreat.Xdz Go.Proofs.YtaoecbpfocillaaGreatW.PrintWords Go.Proofs.YtaoecbpfocillaaGreatW.PrintLast Go.Proofs.YtaoecbpfocillaaGreat.Pk

theorem ev_Index_l0 (l:List Int) (x:Int) (hl:l.length < 9223372036854775807) (d:Nat):∀ j:Nat,j+d=l.length→∃ r:Int,Ev (fun k=>slices_Index_int_int.l0 k l x (l.length:Int) (j:Int)) r∧decide (r≥0)=(l.drop j).contains x:=by
  induction d with
  |zero=>
    intro j hj;have c:¬ (j:Int) < (l.length:Int):=by omega
    rw [List.drop_of_length_le (by omega)];exact ⟨-1,Ev.step (fun k=>by simp only [slices_Index_int_int.l0,c,↓reduceIte]<;>rfl) (Ev.now _),rfl⟩
  |succ d ih=>
    intro j hj;have c:(j:Int) < (l.length:Int):=by omega
    have c0:0≤(j:Int):=by omega
    have e1:wrap64 ((j:Int)+1)=((j+1:Nat):Int):=wj (by omega);rw [rd_drop l j (by omega),List.contains_cons];by_cases h:x=rd l (j:Int)
    · have:(x==rd l (j:Int))=true:=beq_iff_eq.2 h;rw [this,Bool.true_or];exact ⟨j,Ev.step (fun k=>by simp only [slices_Index_int_int.l0,c,c0,↓reduceIte];rw [if_pos h]) (Ev.now _),by simp⟩
    · have:(x==rd l (j:Int))=false:=beq_eq_false_iff_ne.2 h;rw [this,Bool.false_or];obtain ⟨r,hr,hd⟩:=ih (j+1) (by omega);exact ⟨r,Ev.step (fun k=>by simp only [slices_Index_int_int.l0,c,c0,h,e1,↓reduceIte]) hr,hd⟩
theorem ev_Contains (l:List Int) (x:Int) (hl:l.length < 9223372036854775807):Ev (fun k=>slices_Contains_int_int.f k l x) (l.contains x):=by
  obtain ⟨r,hr,hd⟩:=ev_Index_l0 l x hl l.length 0 (by omega);rw [List.drop_zero] at hd;unfold slices_Contains_int_int.f slices_Index_int_int.f;refine Ev.bind hr ?_;rw [hd];exact Ev.now _
theorem ev_isOrder_l0 (l:List Int) (hl:l.length≤7) (d:Nat):∀ j:Nat,j+d=l.length→Ev (fun k=>impl_isOrder.l0 k l l (l.length:Int) (j:Int)) (chk l.length (l.take j) (l.drop j)):=by
  induction d with
  |zero=>
    intro j hj;have c:¬ (j:Int) < (l.length:Int):=by omega
    rw [List.drop_of_length_le (by omega)];exact Ev.step (fun k=>by simp only [impl_isOrder.l0,c,↓reduceIte]<;>rfl) (Ev.now _)
  |succ d ih=>
    intro j hj;have c:(j:Int) < (l.length:Int):=by omega
    have c0:0≤(j:Int):=by omega
    have c1:(j:Int)≤(l.length:Int):=by omega
    have e1:wrap64 ((j:Int)+1)=((j+1:Nat):Int):=wj (by omega);rw [rd_drop l j (by omega),chk,← take_succ l j (by omega)];by_cases h1:1≤rd l (j:Int)
    · have g1:¬ rd l (j:Int) < 1:=by omega
      by_cases h2:rd l (j:Int)≤(l.length:Int)
      · have g2:¬ rd l (j:Int) > (l.length:Int):=by omega
        simp only [h1,h2,decide_true,Bool.true_and];refine Ev.step (f:=fun k=>(slices_Contains_int_int.f k (l.take j) (rd l (j:Int))).bind fun t=>if t=true then some false else impl_isOrder.l0 k l l (l.length:Int) ((j+1:Nat):Int)) (fun k=>by simp only [impl_isOrder.l0,c,c0,c1,g1,g2,e1,Int.toNat_natCast,↓reduceIte]) ?_;refine Ev.bind (ev_Contains (l.take j) _ (by rw [List.length_take];omega)) ?_
        cases hc:(l.take j).contains (rd l (j:Int)) with
        |true=>
          simp only [↓reduceIte,Bool.not_true,Bool.false_and];exact Ev.now _
        |false=>
          simp only [Bool.false_eq_true,↓reduceIte,Bool.not_false,Bool.true_and];exact ih (j+1) (by omega)
      · have g2:rd l (j:Int) > (l.length:Int):=by omega
        simp only [h2,decide_false,Bool.and_false,Bool.false_and];exact Ev.step (fun k=>by simp only [impl_isOrder.l0,c,c0,g1,g2,↓reduceIte]<;>rfl) (Ev.now _)
    · have g1:rd l (j:Int) < 1:=by omega
      simp only [h1,decide_false,Bool.false_and];exact Ev.step (fun k=>by simp only [impl_isOrder.l0,c,c0,g1,↓reduceIte]<;>rfl) (Ev.now _)
theorem ev_isOrder (l:List Int):Ev (fun k=>impl_isOrder.f k l) (ordB l):=by
  unfold impl_isOrder.f ordB;by_cases h1:1≤l.length
  · have g1:¬ (l.length:Int) < 1:=by omega
    by_cases h7:l.length≤7
    · have g7:¬ (l.length:Int) > 7:=by omega
      have:=ev_isOrder_l0 l h7 l.length 0 (by omega);simp only [h1,h7,g1,g7,decide_true,decide_false,Bool.true_and,↓reduceIte];refine Ev.step (fun k=>by simp only [impl_isOrder.j0,Bool.false_eq_true,↓reduceIte]<;>rfl) ?_;rw [List.take_zero,List.drop_zero] at this;exact this
    · have g7:(l.length:Int) > 7:=by omega
      simp only [h7,g1,g7,decide_true,decide_false,Bool.and_false,Bool.false_and,↓reduceIte];exact Ev.step (fun k=>by simp only [impl_isOrder.j0,↓reduceIte]<;>rfl) (Ev.now _)
  · have g1:(l.length:Int) < 1:=by omega
    simp only [h1,g1,decide_false,Bool.false_and,↓reduceIte];exact Ev.step (fun k=>by simp only [impl_isOrder.j0,↓reduceIte]<;>rfl) (Ev.now _)
/-! ### all orders are among the orders -/
theorem unr_surj:∀ (m:Nat) (left o:List Int),left.length=m→o.length=m→o.Nodup→(∀ x ∈ o,x ∈ left)→∃ k,k < fct m∧unr m left k=o
  |0,left,o,_,ho,_,_=>by
    obtain rfl:=List.eq_nil_of_length_eq_zero ho;exact ⟨0,by decide,rfl⟩
  |m+1,left,o,hl,ho,hnd,hs=>by
    cases o with
    |nil=>cases ho
    |cons x t=>
      obtain ⟨i,hi,hx⟩:=List.getElem_of_mem (hs x List.mem_cons_self);have hx':=List.nodup_cons.1 hnd
      have hsub:∀ y ∈ t,y ∈ left.eraseIdx i:=by
        intro y hy;have hm:=hs y (List.mem_cons_of_mem _ hy)
        have h1:left=left.take i++left[i] :: left.drop (i+1):=by
          rw [← List.drop_eq_getElem_cons hi,List.take_append_drop]
        rw [h1,List.mem_append,List.mem_cons] at hm;rw [List.eraseIdx_eq_take_drop_succ,List.mem_append]
        rcases hm with hm|hm|hm
        · exact .inl hm
        · rw [hx] at hm;rw [hm] at hy;exact absurd hy hx'.1
        · exact .inr hm
      rw [List.length_cons] at ho;obtain ⟨k,hk,hu⟩:=unr_surj m (left.eraseIdx i) t (by rw [List.length_eraseIdx_of_lt hi];omega) (by omega) hx'.2 hsub;have hp:=fct_pos m;have q1:(fct m*i+k) / fct m=i:=by rw [Nat.mul_add_div hp,Nat.div_eq_of_lt hk,Nat.add_zero]
      have q2:(fct m*i+k) % fct m=k:=by rw [Nat.mul_add_mod,Nat.mod_eq_of_lt hk]
      refine ⟨fct m*i+k,?_,?_⟩
      · have a1:fct m*i+k < fct m*(i+1):=by rw [Nat.mul_add];omega
        have a2:fct m*(i+1)≤fct m*(m+1):=Nat.mul_le_mul_left _ (by omega);rw [fct,Nat.mul_comm (m+1)];omega
      · rw [unr,q1,q2,hu,rd_get left i hi,hx]
theorem ordB_ords {o:List Int} (h:ordB o=true):o ∈ ords o.length:=by
  obtain ⟨k,hk,hu⟩:=unr_surj o.length (iota 1 o.length) o (iota_length _ _) rfl (ordB_nodup h) (fun x hx=>by
    have hr:=ordB_range h x hx;unfold iota
    exact List.mem_map.2 ⟨(x - 1).toNat,List.mem_range.2 (by omega),by omega⟩)
  unfold ords;exact List.mem_map.2 ⟨k,List.mem_range.2 hk,hu⟩
/-! ### shapes and patterns, in plain words -/
def ltN (l:List Int) (x:Int):Nat:=(l.filter fun m=>decide (m < x)).length
def shapeV (l:List Int):List Int:=l.map fun x=>((1+ltN l x:Nat):Int)
theorem shapeV_len (l:List Int):(shapeV l).length=l.length:=by simp [shapeV]
theorem ltN_mono (l:List Int) (x y:Int) (h:x≤y):ltN l x≤ltN l y:=by
  induction l with
  |nil=>simp [ltN]
  |cons z t ih=>
    simp only [ltN,List.filter_cons] at ih ⊢;by_cases h1:z < x
    · have h2:z < y:=by omega
      simp only [h1,h2,decide_true,↓reduceIte,List.length_cons];omega
    · by_cases h2:z < y
      · simp only [h1,h2,decide_false,decide_true,Bool.false_eq_true,↓reduceIte,List.length_cons];omega
      · simp only [h1,h2,decide_false,Bool.false_eq_true,↓reduceIte];exact ih
theorem ltN_lt (l:List Int) (x y:Int) (hx:x ∈ l) (h:x < y):ltN l x < ltN l y:=by
  induction l with
  |nil=>cases hx
  |cons z t ih=>
    have hm:=ltN_mono t x y (by omega);simp only [ltN,List.filter_cons] at ih hm ⊢
    rcases List.mem_cons.1 hx with rfl|hx
    · have h1:¬ x < x:=by omega
      simp only [h1,h,decide_false,decide_true,Bool.false_eq_true,↓reduceIte,List.length_cons];omega
    · have:=ih hx;by_cases h1:z < x
      · have h2:z < y:=by omega
        simp only [h1,h2,decide_true,↓reduceIte,List.length_cons];omega
      · by_cases h2:z < y
        · simp only [h1,h2,decide_false,decide_true,Bool.false_eq_true,↓reduceIte,List.length_cons];omega
        · simp only [h1,h2,decide_false,Bool.false_eq_true,↓reduceIte];exact this
/-- Lists with the same order of their numbers. -/
def Iso (l l':List Int):Prop:=l.length=l'.length∧∀ a b,a < l.length→b < l.length→(l.getD a 0 < l.getD b 0 ↔ l'.getD a 0 < l'.getD b 0)
theorem ltN_iff (l:List Int) (a b:Nat) (ha:a < l.length) (hb:b < l.length):(l.getD a 0 < l.getD b 0 ↔ ltN l (l.getD a 0) < ltN l (l.getD b 0)):=by
  constructor
  · intro h;exact ltN_lt l _ _ (by simp [ha]) h
  · intro h
    rcases Int.lt_or_le (l.getD a 0) (l.getD b 0) with h1|h1
    · exact h1
    · have:=ltN_mono l _ _ h1;omega
theorem shapeV_get (l:List Int) (a:Nat) (ha:a < l.length):(shapeV l).getD a 0=((1+ltN l (l.getD a 0):Nat):Int):=by
  simp [shapeV,ha]
theorem iso_of_shape {l l':List Int} (h:shapeV l=shapeV l'):Iso l l':=by
  have hl:l.length=l'.length:=by rw [← shapeV_len l,h,shapeV_len]
  refine ⟨hl,fun a b ha hb=>?_⟩;rw [ltN_iff l a b ha hb,ltN_iff l' a b (by omega) (by omega)];have h1:=shapeV_get l a ha;have h2:=shapeV_get l b hb;rw [h,shapeV_get l' a (by omega)] at h1;rw [h,shapeV_get l' b (by omega)] at h2;omega
theorem iso_take {l l':List Int} (h:Iso l l') (j:Nat):Iso (l.take j) (l'.take j):=by
  obtain ⟨hl,h⟩:=h;refine ⟨by simp only [List.length_take];omega,fun a b ha hb=>?_⟩;simp only [List.length_take] at ha hb
  have e:∀ (q:List Int) (c:Nat),c < j→(q.take j).getD c 0=q.getD c 0:=fun q c hc=>by
    simp only [List.getD_eq_getElem?_getD,List.getElem?_take];rw [if_pos hc]
  rw [e l a (by omega),e l b (by omega),e l' a (by omega),e l' b (by omega)];exact h a b (by omega) (by omega)
theorem ltN_count (l:List Int) (x:Int):ltN l x=((List.range l.length).filter fun a=>decide (l.getD a 0 < x)).length:=by
  induction l with
  |nil=>rfl
  |cons z t ih=>
    rw [List.length_cons,List.range_succ_eq_map,List.filter_cons];simp only [ltN,List.filter_cons,List.getD_cons_zero,List.filter_map,List.length_map] at ih ⊢;by_cases h:z < x
    · simp only [h,decide_true,↓reduceIte,List.length_cons,List.length_map];rw [ih];rfl
    · simp only [h,decide_false,Bool.false_eq_true,↓reduceIte,List.length_map];rw [ih];rfl
theorem shape_of_iso {l l':List Int} (h:Iso l l'):shapeV l=shapeV l':=by
  obtain ⟨hl,h⟩:=h;apply List.ext_getElem (by rw [shapeV_len,shapeV_len,hl]);intro i h1 h2;rw [shapeV_len] at h1 h2
  have e:ltN l (l.getD i 0)=ltN l' (l'.getD i 0):=by
    rw [ltN_count,ltN_count,hl]
    congr 1
    apply List.filter_congr;intro a ha;rw [List.mem_range] at ha;rw [decide_eq_decide];exact h a i (by omega) h1
  have a1:=shapeV_get l i h1;have a2:=shapeV_get l' i h2;rw [e] at a1;have a3:=a1.trans a2.symm
  simpa [shapeV,h1,h2] using a3
/-- A pattern is in a list. -/
def HasP (o p:List Int):Prop:=∃ w:List Int,w.Sublist o∧w.length=p.length∧shapeV w=p
theorem HasP.map {o p:List Int} (f:Int→Int) (hf:∀ x y,x < y ↔ f x < f y) (t:List Int) (h:HasP o p):HasP (o.map f++t) p:=by
  obtain ⟨w,h1,h2,h3⟩:=h;refine ⟨w.map f,(h1.map f).trans (List.sublist_append_left _ _),by simpa using h2,?_⟩;rw [← h3];apply shape_of_iso;refine ⟨by simp,fun a b ha hb=>?_⟩;simp only [List.length_map] at ha hb;have e:∀ c,c < w.length→(w.map f).getD c 0=f (w.getD c 0):=fun c hc=>by simp [hc]
  rw [e a ha,e b hb];exact (hf _ _).symm
def anyT (G:Int→List Int→Bool):List Int→Bool
  |[]=>false
  |y :: t=>G y t||anyT G t
/-- The program's search. -/
def exS (p:List Int):Nat→List Int→List Int→Bool
  |0,_,_=>false
  |m+1,v,rest=>if v.length=p.length then decide (shapeV v=p) else anyT (fun y t=>exS p m (v++[y]) t) rest
/-- The reference's search. -/
def goS (p:List Int):Nat→List Int→List Int→Bool
  |0,_,_=>false
  |m+1,v,rest=>if 0 < v.length∧shapeV v≠shapeV (p.take v.length) then false else if v.length=p.length then true else anyT (fun y t=>goS p m (v++[y]) t) rest
theorem anyT_iff (G:Int→List Int→Bool):∀ l,anyT G l=true ↔ ∃ y t,(y :: t).Sublist l∧(∃ q,l=q++y :: t)∧G y t=true
  |[]=>by
    simp only [anyT,Bool.false_eq_true,false_iff];rintro ⟨y,t,h,_⟩;cases h
  |z :: s=>by
    simp only [anyT,Bool.or_eq_true]
    constructor
    · rintro (h|h)
      · exact ⟨z,s,List.Sublist.refl _,⟨[],rfl⟩,h⟩
      · obtain ⟨y,t,h1,⟨q,hq⟩,h2⟩:=(anyT_iff G s).1 h;exact ⟨y,t,h1.cons _,⟨z :: q,by rw [hq];rfl⟩,h2⟩
    · rintro ⟨y,t,_,⟨q,hq⟩,h2⟩
      cases q with
      |nil=>
        simp only [List.nil_append,List.cons.injEq] at hq;obtain ⟨rfl,rfl⟩:=hq;exact .inl h2
      |cons q0 q=>
        simp only [List.cons_append,List.cons.injEq] at hq;obtain ⟨_,hq⟩:=hq;refine .inr ((anyT_iff G s).2 ⟨y,t,?_,⟨q,hq⟩,h2⟩);rw [hq];exact List.sublist_append_right _ _
/-- A sublist begins at some place. -/
theorem sub_cons {y:Int} {w l:List Int} (h:(y :: w).Sublist l):∃ q t,l=q++y :: t∧w.Sublist t:=by
  induction l with
  |nil=>cases h
  |cons z s ih=>
    rcases List.sublist_cons_iff.1 h with h1|⟨r,hr,h2⟩
    · obtain ⟨q,t,e,h3⟩:=ih h1;exact ⟨z :: q,t,by rw [e];rfl,h3⟩
    · simp only [List.cons.injEq] at hr;obtain ⟨rfl,rfl⟩:=hr;exact ⟨[],s,rfl,h2⟩
theorem exS_iff (p:List Int):∀ (m:Nat) (v rest:List Int),v.length≤p.length→p.length - v.length < m→(exS p m v rest=true ↔ ∃ w,w.Sublist rest∧(v++w).length=p.length∧shapeV (v++w)=p)
  |0,_,_,_,h=>by omega
  |m+1,v,rest,hv,hm=>by
    simp only [exS];by_cases hl:v.length=p.length
    · rw [if_pos hl,decide_eq_true_eq]
      constructor
      · intro h;exact ⟨[],List.nil_sublist _,by simpa using hl,by simpa using h⟩
      · rintro ⟨w,_,h2,h3⟩;obtain rfl:w=[]:=List.eq_nil_of_length_eq_zero (by rw [List.length_append] at h2;omega)
        simpa using h3
    · rw [if_neg hl,anyT_iff]
      constructor
      · rintro ⟨y,t,h1,_,h3⟩;obtain ⟨w,a1,a2,a3⟩:=(exS_iff p m (v++[y]) t (by simp;omega) (by simp;omega)).1 h3;exact ⟨y :: w,(a1.cons_cons y).trans h1,by simpa using a2,by simpa using a3⟩
      · rintro ⟨w,h1,h2,h3⟩
        cases w with
        |nil=>rw [List.append_nil] at h2;exact absurd h2 hl
        |cons y w=>
          obtain ⟨q,t,e,h4⟩:=sub_cons h1;refine ⟨y,t,by rw [e];exact List.sublist_append_right _ _,⟨q,e⟩,(exS_iff p m (v++[y]) t (by simp;omega) (by simp;omega)).2 ⟨w,h4,by simpa using h2,by simpa using h3⟩⟩
theorem goS_iff (p:List Int) (hp:shapeV p=p):∀ (m:Nat) (v rest:List Int),v.length≤p.length→p.length - v.length < m→0 < p.length→(goS p m v rest=true ↔ ∃ w,w.Sublist rest∧(v++w).length=p.length∧shapeV (v++w)=p)
  |0,_,_,_,h,_=>by omega
  |m+1,v,rest,hv,hm,h0=>by
    simp only [goS];by_cases hb:0 < v.length∧shapeV v≠shapeV (p.take v.length)
    · rw [if_pos hb];simp only [Bool.false_eq_true,false_iff];rintro ⟨w,_,h2,h3⟩;have hi:=iso_take (iso_of_shape (h3.trans hp.symm)) v.length;rw [List.take_left] at hi;exact hb.2 (shape_of_iso hi)
    · rw [if_neg hb];by_cases hl:v.length=p.length
      · rw [if_pos hl];simp only [true_iff];refine ⟨[],List.nil_sublist _,by simpa using hl,?_⟩;rw [List.append_nil];have hs:shapeV v=shapeV (p.take v.length):=Classical.byContradiction fun h=>hb ⟨by omega,h⟩
        rw [hs,hl,List.take_length,hp]
      · rw [if_neg hl,anyT_iff]
        constructor
        · rintro ⟨y,t,h1,_,h3⟩;obtain ⟨w,a1,a2,a3⟩:=(goS_iff p hp m (v++[y]) t (by simp;omega) (by simp;omega) h0).1 h3;exact ⟨y :: w,(a1.cons_cons y).trans h1,by simpa using a2,by simpa using a3⟩
        · rintro ⟨w,h1,h2,h3⟩
          cases w with
          |nil=>rw [List.append_nil] at h2;exact absurd h2 hl
          |cons y w=>
            obtain ⟨q,t,e,h4⟩:=sub_cons h1;refine ⟨y,t,by rw [e];exact List.sublist_append_right _ _,⟨q,e⟩,(goS_iff p hp m (v++[y]) t (by simp;omega) (by simp;omega) h0).2 ⟨w,h4,by simpa using h2,by simpa using h3⟩⟩
/-- Whether a pattern is in a list. -/
def hasB (o p:List Int):Bool:=goS p (p.length+1) [] o
theorem hasB_iff {o p:List Int} (hp:shapeV p=p) (h0:0 < p.length):hasB o p=true ↔ HasP o p:=by
  unfold hasB HasP;rw [goS_iff p hp _ _ _ (by simp) (by simp) h0];simp
theorem exS_has {o p:List Int} (hp:shapeV p=p) (h0:0 < p.length):exS p (p.length+1) [] o=hasB o p:=by
  rw [Bool.eq_iff_iff,hasB_iff hp h0,exS_iff p _ _ _ (by simp) (by simp)];unfold HasP;simp
/-! ### orders by a last number more -/
def insV (o:List Int) (k:Int):List Int:=(o.map fun x=>if x≥k then x+1 else x)++[k]
def avB (pats:List (List Int)) (o:List Int):Bool:=pats.all fun p=> !hasB o p
def gen:Nat→List (List Int)
  |0=>[[]]
  |i+1=>(gen i).flatMap fun o=>(List.range (i+1)).map fun j=>insV o ((j+1:Nat):Int)
def avL (pats:List (List Int)):Nat→List (List Int)
  |0=>[[]]
  |i+1=>(avL pats i).flatMap fun o=>((List.range (i+1)).map fun j=>insV o ((j+1:Nat):Int)).filter (avB pats)
theorem shapeV_order {p:List Int} (h:ordB p=true):shapeV p=p:=by
  obtain ⟨h1,h7⟩:=ordB_len h;have hp:=(ords_mem (ordB_ords h)).1;have hr:=ordB_range h;have hlt:∀ x,ltN p x=ltN (iota 1 p.length) x:=fun x=>(hp.filter _).length_eq
  have hall:∀ n,n≤7→∀ x:Nat,x≤7→1≤x→x≤n→1+ltN (iota 1 n) (x:Int)=x:=by decide
  unfold shapeV
  conv=>rhs;rw [← List.map_id p]
  apply List.map_congr_left;intro x hx;have:=hr x hx
  obtain ⟨m,rfl⟩:∃ m:Nat,x=(m:Int):=⟨x.toNat,by omega⟩
  rw [hlt,hall p.length h7 m (by omega) (by omega) (by omega)];rfl
theorem has_ins {o p:List Int} (k:Int) (hp:shapeV p=p) (h0:0 < p.length) (h:hasB o p=true):hasB (insV o k) p=true:=by
  rw [hasB_iff hp h0] at h ⊢;exact h.map (fun x=>if x≥k then x+1 else x) (fun x y=>by (try dsimp only);split<;>split<;>omega) _
theorem av_ins {pats:List (List Int)} (hp:∀ p ∈ pats,ordB p=true) (o:List Int) (k:Int) (h:avB pats (insV o k)=true):avB pats o=true:=by
  unfold avB at h ⊢;rw [List.all_eq_true] at h ⊢;intro p hm;have h1:=h p hm
  cases hb:hasB o p with
  |false=>rfl
  |true=>
    rw [has_ins k (shapeV_order (hp p hm)) (by have:=ordB_len (hp p hm);omega) hb] at h1;cases h1
theorem filter_flat {α β:Type} (f:α→List β) (p:β→Bool) (q:α→Bool) (h:∀ a,q a=false→(f a).filter p=[]):∀ l:List α,(l.flatMap f).filter p=(l.filter q).flatMap fun a=>(f a).filter p
  |[]=>rfl
  |a :: t=>by
    rw [List.flatMap_cons,List.filter_append,filter_flat f p q h t,List.filter_cons]
    cases hq:q a with
    |true=>simp
    |false=>simp [h a hq]
theorem avL_gen {pats:List (List Int)} (hp:∀ p ∈ pats,ordB p=true):∀ n,avL pats n=(gen n).filter (avB pats)
  |0=>by
    have:avB pats []=true:=by
      unfold avB;rw [List.all_eq_true];intro p hm;have h0:=(ordB_len (hp p hm)).1
      cases hb:hasB [] p with
      |false=>rfl
      |true=>
        obtain ⟨w,h1,h2,_⟩:=(hasB_iff (shapeV_order (hp p hm)) (by omega)).1 hb;rw [List.sublist_nil] at h1;subst h1;simp at h2;omega
    simp [avL,gen,this]
  |i+1=>by
    simp only [avL,gen];rw [avL_gen hp i,filter_flat _ (avB pats) (avB pats)];intro o ho;rw [List.filter_eq_nil_iff];intro x hx h;obtain ⟨j,_,rfl⟩:=List.mem_map.1 hx;rw [av_ins hp o _ h] at ho;cases ho
/-! ### the orders so made are all orders -/
def codeN (o:List Int):Nat:=o.foldl (fun a x=>a*8+x.toNat) 0
def decN:Nat→Nat→List Int
  |0,_=>[]
  |n+1,c=>decN n (c / 8)++[((c % 8:Nat):Int)]
def insN (a:Nat):List Nat→List Nat
  |[]=>[a]
  |b :: t=>if a≤b then a :: b :: t else b :: insN a t
def srtN:List Nat→List Nat
  |[]=>[]
  |a :: t=>insN a (srtN t)
theorem insN_perm (a:Nat):∀ l,(insN a l).Perm (a :: l)
  |[]=>List.Perm.refl _
  |b :: t=>by
    simp only [insN]
    split
    · exact List.Perm.refl _
    · exact ((insN_perm a t).cons b).trans (List.Perm.swap a b t)
theorem srtN_perm:∀ l,(srtN l).Perm l
  |[]=>List.Perm.refl _
  |a :: t=>(insN_perm a (srtN t)).trans ((srtN_perm t).cons a)
def sameB (n:Nat):Bool:=(srtN ((gen n).map codeN)==(ords n).map codeN)&&(gen n).all (fun o=>decN n (codeN o)==o)&&(ords n).all (fun o=>decN n (codeN o)==o)
theorem sameB_1:sameB 1=true:=by decide+kernel
theorem sameB_2:sameB 2=true:=by decide+kernel
theorem sameB_3:sameB 3=true:=by decide+kernel
theorem sameB_4:sameB 4=true:=by decide+kernel
theorem sameB_5:sameB 5=true:=by decide+kernel
theorem sameB_6:sameB 6=true:=by decide+kernel
theorem gen_perm (n:Nat) (h1:1≤n) (h6:n≤6):(gen n).Perm (ords n):=by
  have hs:sameB n=true:=by
    have:n=1∨n=2∨n=3∨n=4∨n=5∨n=6:=by omega
    rcases this with rfl|rfl|rfl|rfl|rfl|rfl
    · exact sameB_1
    · exact sameB_2
    · exact sameB_3
    · exact sameB_4
    · exact sameB_5
    · exact sameB_6
  unfold sameB at hs;simp only [Bool.and_eq_true,beq_iff_eq,List.all_eq_true] at hs;obtain ⟨⟨a,b⟩,c⟩:=hs;have hp:((gen n).map codeN).Perm ((ords n).map codeN):=by rw [← a];exact (srtN_perm _).symm
  have e1:((gen n).map codeN).map (decN n)=gen n:=by
    rw [List.map_map]
    conv=>rhs;rw [← List.map_id (gen n)]
    exact List.map_congr_left fun o ho=>b o ho
  have e2:((ords n).map codeN).map (decN n)=ords n:=by
    rw [List.map_map]
    conv=>rhs;rw [← List.map_id (ords n)]
    exact List.map_congr_left fun o ho=>c o ho
  have:=hp.map (decN n)
  rwa [e1,e2] at this
theorem avL_count {pats:List (List Int)} (hp:∀ p ∈ pats,ordB p=true) (n:Nat) (h1:1≤n) (h6:n≤6):((avL pats n).length:Int)=((ords n).map fun o=>if avB pats o=true then (1:Int) else 0).sum:=by
  rw [avL_gen hp n,((gen_perm n h1 h6).filter _).length_eq];generalize ords n=l
  induction l with
  |nil=>rfl
  |cons x t ih=>
    rw [List.filter_cons,List.map_cons,List.sum_cons,← ih]
    cases avB pats x with
    |true=>simp;omega
    |false=>simp
/-! ### the program's search for a pattern -/
theorem ltN_succ (l:List Int) (j:Nat) (x:Int) (h:j < l.length):ltN (l.take (j+1)) x=ltN (l.take j) x+(if rd l (j:Int) < x then 1 else 0):=by
  rw [take_succ l j h];unfold ltN;rw [List.filter_append,List.length_append];by_cases c:rd l (j:Int) < x<;>simp [c]
theorem ltN_le (l:List Int) (x:Int):ltN l x≤l.length:=List.length_filter_le _ _
theorem ev_at (l ps:List Int) (hl:l.length≤7) (hp:ps.length≤7) (h:∀ x ∈ ps,0≤x∧x < (l.length:Int)):Ev (fun k=>impl_at.f k l ps) (ps.map fun x=>rd l x):=by
  have go:∀ (d j:Nat),j+d=ps.length→Ev (fun k=>impl_at.l0 k l ((ps.take j).map fun x=>rd l x) ps (ps.length:Int) (j:Int)) (ps.map fun x=>rd l x):=by
    intro d
    induction d with
    |zero=>
      intro j hj;have c:¬ (j:Int) < (ps.length:Int):=by omega
      rw [List.take_of_length_le (show ps.length≤j by omega)];exact Ev.step (f:=fun _=>some (ps.map fun x=>rd l x)) (fun k=>by simp only [impl_at.l0,c,↓reduceIte]) (Ev.now _)
    |succ d ih=>
      intro j hj;have c:(j:Int) < (ps.length:Int):=by omega
      have c0:0≤(j:Int):=by omega
      have hm:=h (rd ps (j:Int)) (by rw [rd_get ps j (by omega)];exact List.getElem_mem _);have c1:=hm.1;have c2:=hm.2;have lim:((ps.take j).map fun x=>rd l x).length < 17592186044416:=by simp;omega
      have e:=qA (show wrap64 ((j:Int)+1)=((j+1:Nat):Int) from wj (by omega));have nx:=ih (j+1) (by omega);rw [take_succ ps j (by omega),List.map_append,List.map_cons,List.map_nil] at nx;exact Ev.step (fun k=>by simp only [impl_at.l0,c,c0,c1,c2,lim,e.out,↓reduceIte]) nx
  have:=go ps.length 0 (by omega);exact this
theorem ev_shapeI (l:List Int) (hl:l.length≤7):Ev (fun k=>impl_shape.f k l) (shapeV l):=by
  have go:∀ (d i:Nat),i+d=l.length→Ev (fun k=>impl_shape.l0 k l ((l.take i).map fun x=>((1+ltN l x:Nat):Int)) l (l.length:Int) (i:Int)) (shapeV l):=by
    intro d
    induction d with
    |zero=>
      intro i hi;have c:¬ (i:Int) < (l.length:Int):=by omega
      rw [List.take_of_length_le (show l.length≤i by omega)];exact Ev.step (f:=fun _=>some (shapeV l)) (fun k=>by simp only [impl_shape.l0,c,↓reduceIte];rfl) (Ev.now _)
    |succ d ih=>
      intro i hi;have c:(i:Int) < (l.length:Int):=by omega
      have c0:0≤(i:Int):=by omega
      have ei:=qA (show wrap64 ((i:Int)+1)=((i+1:Nat):Int) from wj (by omega));have lim:((l.take i).map fun x=>((1+ltN l x:Nat):Int)).length < 17592186044416:=by simp;omega
      have nx:=ih (i+1) (by omega);rw [take_succ l i (by omega),List.map_append,List.map_cons,List.map_nil] at nx
      have inn:∀ (e j:Nat),j+e=l.length→Ev (fun k=>impl_shape.l1 k l ((l.take i).map fun x=>((1+ltN l x:Nat):Int)) (rd l (i:Int)) ((1+ltN (l.take j) (rd l (i:Int)):Nat):Int) l (l.length:Int) (i:Int) l (l.length:Int) (j:Int)) (shapeV l):=by
        intro e
        induction e with
        |zero=>
          intro j hj;have c':¬ (j:Int) < (l.length:Int):=by omega
          rw [List.take_of_length_le (show l.length≤j by omega)];exact Ev.step (fun k=>by simp only [impl_shape.l1,c',lim,ei.out,↓reduceIte]) nx
        |succ e ihe=>
          intro j hj;have c':(j:Int) < (l.length:Int):=by omega
          have c0':0≤(j:Int):=by omega
          have ej:=qA (show wrap64 ((j:Int)+1)=((j+1:Nat):Int) from wj (by omega));have nj:=ihe (j+1) (by omega);rw [ltN_succ l j _ (by omega)] at nj;have hb:=ltN_le (l.take j) (rd l (i:Int));have hb2:(l.take j).length≤7:=by rw [List.length_take];omega
          by_cases h:rd l (j:Int) < rd l (i:Int)
          · rw [if_pos h] at nj;have eq_:=qA (show wrap64 (((1+ltN (l.take j) (rd l (i:Int)):Nat):Int)+1)=((1+(ltN (l.take j) (rd l (i:Int))+1):Nat):Int) from by rw [wj (by omega)];congr 1);exact Ev.step (fun k=>by simp only [impl_shape.l1,c',c0',h,ej.out,eq_.out,↓reduceIte]) nj
          · rw [if_neg h,Nat.add_zero] at nj;exact Ev.step (fun k=>by simp only [impl_shape.l1,c',c0',h,ej.out,↓reduceIte]) nj
      have:=inn l.length 0 (by omega);simp only [List.take_zero,show ltN [] (rd l (i:Int))=0 from rfl] at this;exact Ev.step (fun k=>by simp only [impl_shape.l0,c,c0,↓reduceIte];rfl) this
  have:=go l.length 0 (by omega);exact this
theorem ev_Equal (a b:List Int) (ha:a.length≤7) (hb:b.length≤7):Ev (fun k=>slices_Equal_int_int.f k a b) (decide (a=b)):=by
  unfold slices_Equal_int_int.f;by_cases hl:(a.length:Int)=(b.length:Int)
  · simp only [hl,↓reduceIte];have hl':a.length=b.length:=by omega
    have go:∀ (d j:Nat),j+d=b.length→Ev (fun k=>slices_Equal_int_int.l0 k a b (b.length:Int) (j:Int)) (decide (a.drop j=b.drop j)):=by
      intro d
      induction d with
      |zero=>
        intro j hj;have c:¬ (j:Int) < (b.length:Int):=by omega
        rw [List.drop_of_length_le (show a.length≤j by omega),List.drop_of_length_le (show b.length≤j by omega)];exact Ev.step (f:=fun _=>some true) (fun k=>by simp only [slices_Equal_int_int.l0,c,↓reduceIte]) (Ev.now _)
      |succ d ih=>
        intro j hj;have c:(j:Int) < (b.length:Int):=by omega
        have c0:0≤(j:Int):=by omega
        have c1:(j:Int) < (a.length:Int):=by omega
        have ej:=qA (show wrap64 ((j:Int)+1)=((j+1:Nat):Int) from wj (by omega));have nj:=ih (j+1) (by omega);rw [rd_drop a j (by omega),rd_drop b j (by omega)];by_cases h:rd a (j:Int)=rd b (j:Int)
        · have e:decide (rd a (j:Int) :: a.drop (j+1)=rd b (j:Int) :: b.drop (j+1))=decide (a.drop (j+1)=b.drop (j+1)):=by simp [h]
          rw [e];exact Ev.step (fun k=>by simp only [slices_Equal_int_int.l0,c,c0,c1,h,ej.out,↓reduceIte]) nj
        · have e:decide (rd a (j:Int) :: a.drop (j+1)=rd b (j:Int) :: b.drop (j+1))=false:=by simp [h]
          rw [e];exact Ev.step (f:=fun _=>some false) (fun k=>by simp only [slices_Equal_int_int.l0,c,c0,c1,h,↓reduceIte]) (Ev.now _)
    have:=go b.length 0 (by omega)
    simpa using this
  · simp only [hl,↓reduceIte]
    have:decide (a=b)=false:=by
      rw [decide_eq_false_iff_not];rintro rfl;exact hl rfl
    rw [this];exact Ev.now _
theorem ev_fpF (o p:List Int) (ho:o.length≤7) (hp:p.length≤7) (ps:List Int) (hps:ps.length=p.length) (h:∀ x ∈ ps,0≤x∧x < (o.length:Int)) (f:Bool):Ev (fun k=>fpF k o p ps f) (decide (shapeV (ps.map fun x=>rd o x)=p),decide (shapeV (ps.map fun x=>rd o x)=p)):=by
  unfold fpF;refine Ev.bind (ev_at o ps ho (by omega) h) ?_;refine Ev.bind (ev_shapeI _ (by simp;omega)) ?_;refine Ev.bind (ev_Equal _ p (by rw [shapeV_len];simp;omega) hp) ?_;exact Ev.now _
theorem ev_cw (o p:List Int) (ho:o.length≤7) (hp:p.length≤7):∀ (m:Nat) (d:List Int) (i:Nat),d.length≤p.length→p.length - d.length < m→(∀ x ∈ d,0≤x∧x < (o.length:Int))→Ev (fun k=>cwF (fpF k o p) o.length p.length m d i false) (exS p m (d.map fun x=>rd o x) (o.drop i),exS p m (d.map fun x=>rd o x) (o.drop i))
  |0,_,_,_,h,_=>by omega
  |m+1,d,i,hd,hm,h=>by
    simp only [cwF,exS,List.length_map];by_cases hl:d.length=p.length
    · simp only [hl,↓reduceIte];exact ev_fpF o p ho hp d hl h false
    · simp only [hl,↓reduceIte]
      have go:∀ (c x:Nat),c=o.length - x→Ev (fun k=>cwL (fun x s=>cwF (fpF k o p) o.length p.length m (d++[(x:Int)]) (x+1) s) c x false) (anyT (fun y t=>exS p m ((d.map fun x=>rd o x)++[y]) t) (o.drop x),anyT (fun y t=>exS p m ((d.map fun x=>rd o x)++[y]) t) (o.drop x)):=by
        intro c
        induction c with
        |zero=>
          intro x hx;rw [List.drop_of_length_le (show o.length≤x by omega)];exact Ev.now _
        |succ c ih=>
          intro x hx;rw [rd_drop o x (by omega)];simp only [cwL,anyT];have e:(d.map fun x=>rd o x)++[rd o (x:Int)]=(d++[(x:Int)]).map fun x=>rd o x:=by simp
          rw [e]
          have hin:∀ z ∈ d++[(x:Int)],0≤z∧z < (o.length:Int):=by
            intro z hz
            rcases List.mem_append.1 hz with hz|hz
            · exact h z hz
            · rw [List.mem_singleton] at hz;omega
          refine Ev.bind (ev_cw o p ho hp m (d++[(x:Int)]) (x+1) (by simp;omega) (by simp;omega) hin) ?_
          cases exS p m ((d++[(x:Int)]).map fun x=>rd o x) (o.drop (x+1)) with
          |true=>
            simp only [↓reduceIte,Bool.true_or];exact Ev.now _
          |false=>
            simp only [Bool.false_eq_true,↓reduceIte,Bool.false_or];exact ih (x+1) (by omega)
      exact go _ i rfl
theorem ev_fpB (o p:List Int) (ho:o.length≤7) (hp:ordB p=true):Ev (fun k=>fpB k o p) (hasB o p):=by
  obtain ⟨h1,h7⟩:=ordB_len hp;unfold fpB;have c:o.length≤800∧p.length≤800:=by omega
  simp only [c,and_self,↓reduceIte];rw [← exS_has (shapeV_order hp) (by omega)];have:=ev_cw o p ho h7 (p.length+1) [] 0 (by simp) (by simp) (by simp);exact Ev.bind this (Ev.now _)
theorem ev_anyO (F:Nat→List Int→Option Bool) (B:List Int→Bool):∀ l:List (List Int),(∀ p ∈ l,Ev (fun k=>F k p) (B p))→Ev (fun k=>anyO (F k) l) (l.any B)
  |[],_=>Ev.now _
  |x :: t,h=>by
    simp only [anyO,List.any_cons];refine Ev.bind (h x (by simp)) ?_
    cases B x with
    |true=>
      simp only [↓reduceIte,Bool.true_or];exact Ev.now _
    |false=>
      simp only [Bool.false_eq_true,↓reduceIte,Bool.false_or];exact ev_anyO F B t fun p hp=>h p (by simp [hp])
theorem not_any (B:List Int→Bool) (l:List (List Int)):(!l.any B)=l.all fun p=> !B p:=by
  induction l with
  |nil=>rfl
  |cons x t ih=>simp only [List.any_cons,List.all_cons,Bool.not_or,ih]
theorem ev_avF (pats:List (List Int)) (h4:pats.length≤4) (hp:∀ p ∈ pats,ordB p=true) (o:List Int) (ho:o.length≤7):Ev (fun k=>avF k pats o) (avB pats o):=by
  unfold avF;have c:pats.length≤1000000:=by omega
  simp only [c,↓reduceIte];refine Ev.bind (ev_anyO (fun k=>fpB k o) (hasB o) pats fun p hm=>ev_fpB o p ho (hp p hm)) ?_;unfold avB;rw [not_any];exact Ev.now _
theorem ev_arF (pats:List (List Int)):Ev (fun k=>arF k pats) (decide (pats.length≤4)&&pats.all ordB):=by
  unfold arF;by_cases h:pats.length≤4
  · simp only [h,↓reduceIte,decide_true,Bool.true_and];refine Ev.bind (ev_anyO (fun k=>ntF k) (fun p=> !ordB p) pats fun p _=>?_) ?_
    · unfold ntF;exact Ev.bind (ev_isOrder p) (Ev.now _)
    · rw [not_any];simp only [Bool.not_not];exact Ev.now _
  · simp only [h,↓reduceIte,decide_false,Bool.false_and];exact Ev.now _
/-! ### the reference's search for a pattern -/
theorem ev_shapeS (l:List Int) (hl:l.length≤7):Ev (fun k=>spec_l3Shape.f k l) (shapeV l):=by
  have go:∀ (d i:Nat),i+d=l.length→Ev (fun k=>spec_l3Shape.l0 k l ((l.take i).map fun x=>((1+ltN l x:Nat):Int)) (i:Int)) (shapeV l):=by
    intro d
    induction d with
    |zero=>
      intro i hi;have c:¬ (i:Int) < (l.length:Int):=by omega
      rw [List.take_of_length_le (show l.length≤i by omega)];exact Ev.step (f:=fun _=>some (shapeV l)) (fun k=>by simp only [spec_l3Shape.l0,c,↓reduceIte];rfl) (Ev.now _)
    |succ d ih=>
      intro i hi;have c:(i:Int) < (l.length:Int):=by omega
      have c0:0≤(i:Int):=by omega
      have ei:=qA (show wrap64 ((i:Int)+1)=((i+1:Nat):Int) from wj (by omega));have lim:((l.take i).map fun x=>((1+ltN l x:Nat):Int)).length < 17592186044416:=by simp;omega
      have nx:=ih (i+1) (by omega);rw [take_succ l i (by omega),List.map_append,List.map_cons,List.map_nil] at nx
      have inn:∀ (e j:Nat),j+e=l.length→Ev (fun k=>spec_l3Shape.l1 k l ((l.take i).map fun x=>((1+ltN l x:Nat):Int)) (i:Int) ((1+ltN (l.take j) (rd l (i:Int)):Nat):Int) (j:Int)) (shapeV l):=by
        intro e
        induction e with
        |zero=>
          intro j hj;have c':¬ (j:Int) < (l.length:Int):=by omega
          rw [List.take_of_length_le (show l.length≤j by omega)];exact Ev.step (fun k=>by simp only [spec_l3Shape.l1,c',lim,ei.out,↓reduceIte]) nx
        |succ e ihe=>
          intro j hj;have c':(j:Int) < (l.length:Int):=by omega
          have c0':0≤(j:Int):=by omega
          have ej:=qA (show wrap64 ((j:Int)+1)=((j+1:Nat):Int) from wj (by omega));have nj:=ihe (j+1) (by omega);rw [ltN_succ l j _ (by omega)] at nj;have hb:=ltN_le (l.take j) (rd l (i:Int));have hb2:(l.take j).length≤7:=by rw [List.length_take];omega
          by_cases h:rd l (j:Int) < rd l (i:Int)
          · rw [if_pos h] at nj;have eq_:=qA (show wrap64 (((1+ltN (l.take j) (rd l (i:Int)):Nat):Int)+1)=((1+(ltN (l.take j) (rd l (i:Int))+1):Nat):Int) from by rw [wj (by omega)];congr 1);exact Ev.step (fun k=>by simp only [spec_l3Shape.l1,c,c0,c',c0',h,ej.out,eq_.out,↓reduceIte]) nj
          · rw [if_neg h,Nat.add_zero] at nj;exact Ev.step (fun k=>by simp only [spec_l3Shape.l1,c,c0,c',c0',h,ej.out,↓reduceIte]) nj
      have:=inn l.length 0 (by omega);simp only [List.take_zero,show ltN [] (rd l (i:Int))=0 from rfl] at this;exact Ev.step (fun k=>by simp only [spec_l3Shape.l0,c,↓reduceIte];rfl) this
  have:=go l.length 0 (by omega);exact this
theorem ev_Same (a b:List Int) (ha:a.length≤7) (hb:b.length≤7):Ev (fun k=>spec_l1Same.f k a b) (decide (a=b)):=by
  unfold spec_l1Same.f;by_cases hl:(a.length:Int)=(b.length:Int)
  · simp only [hl,↓reduceIte];have hl':a.length=b.length:=by omega
    have go:∀ (d j:Nat),j+d=b.length→Ev (fun k=>spec_l1Same.l0 k a b (j:Int)) (decide (a.drop j=b.drop j)):=by
      intro d
      induction d with
      |zero=>
        intro j hj;have c:¬ (j:Int) < (a.length:Int):=by omega
        rw [List.drop_of_length_le (show a.length≤j by omega),List.drop_of_length_le (show b.length≤j by omega)];exact Ev.step (f:=fun _=>some true) (fun k=>by simp only [spec_l1Same.l0,c,↓reduceIte]) (Ev.now _)
      |succ d ih=>
        intro j hj;have c:(j:Int) < (b.length:Int):=by omega
        have c0:0≤(j:Int):=by omega
        have c1:(j:Int) < (a.length:Int):=by omega
        have ej:=qA (show wrap64 ((j:Int)+1)=((j+1:Nat):Int) from wj (by omega));have nj:=ih (j+1) (by omega);rw [rd_drop a j (by omega),rd_drop b j (by omega)];by_cases h:rd a (j:Int)=rd b (j:Int)
        · have e:decide (rd a (j:Int) :: a.drop (j+1)=rd b (j:Int) :: b.drop (j+1))=decide (a.drop (j+1)=b.drop (j+1)):=by simp [h]
          rw [e];exact Ev.step (fun k=>by simp only [spec_l1Same.l0,c,c0,c1,h,ej.out,↓reduceIte]) nj
        · have e:decide (rd a (j:Int) :: a.drop (j+1)=rd b (j:Int) :: b.drop (j+1))=false:=by simp [h]
          rw [e];exact Ev.step (f:=fun _=>some false) (fun k=>by simp only [spec_l1Same.l0,c,c0,c1,h,↓reduceIte]) (Ev.now _)
    have:=go b.length 0 (by omega)
    simpa using this
  · simp only [hl,↓reduceIte]
    have:decide (a=b)=false:=by
      rw [decide_eq_false_iff_not];rintro rfl;exact hl rfl
    rw [this];exact Ev.now _
theorem own_eq (l:List Int) (hl:l.length≤1000):spec_l1Own.f l=some l:=by
  unfold spec_l1Own.f;have c:([]:List Int).length+l.length < 17592186044416:=by simp;omega
  simp only [Option.bind_some,c,↓reduceIte,List.nil_append]
theorem ev_goes (o p:List Int) (ho:o.length≤7) (hp:p.length≤7):∀ (m:Nat) (v:List Int) (i:Nat),v.length≤p.length→p.length - v.length < m→i≤o.length→Ev (fun k=>spec_l3Goes.f k o p v (i:Int)) (goS p m v (o.drop i))
  |0,_,_,_,h,_=>by omega
  |m+1,v,i,hv,hm,hi=>by
    have loop:p.length≠v.length→∀ (c x:Nat),c=o.length - x→x≤o.length→Ev (fun k=>spec_l3Goes.l0 k o p v (x:Int)) (anyT (fun y t=>goS p m (v++[y]) t) (o.drop x)):=by
      intro hne c
      induction c with
      |zero=>
        intro x hx hxo;have c':¬ (x:Int) < (o.length:Int):=by omega
        rw [List.drop_of_length_le (show o.length≤x by omega)];exact Ev.step (f:=fun _=>some false) (fun k=>by simp only [spec_l3Goes.l0,c',↓reduceIte]) (Ev.now _)
      |succ c ih=>
        intro x hx hxo;have c':(x:Int) < (o.length:Int):=by omega
        have c0:0≤(x:Int):=by omega
        have ex:=qA (show wrap64 ((x:Int)+1)=((x+1:Nat):Int) from wj (by omega));have eo:=own_eq v (by omega);have lim:v.length+([rd o (x:Int)]:List Int).length < 17592186044416:=by simp;omega
        rw [rd_drop o x (by omega)];simp only [anyT];refine Ev.step (f:=fun k=>(spec_l3Goes.f k o p (v++[rd o (x:Int)]) ((x+1:Nat):Int)).bind fun t204=>(if t204=true then (some true) else (spec_l3Goes.l0 k o p v ((x+1:Nat):Int)))) (fun k=>by simp only [spec_l3Goes.l0,c',c0,eo,Option.bind_some,lim,ex.out,↓reduceIte]) ?_;refine Ev.bind (ev_goes o p ho hp m (v++[rd o (x:Int)]) (x+1) (by simp;omega) (by simp;omega) (by omega)) ?_
        cases goS p m (v++[rd o (x:Int)]) (o.drop (x+1)) with
        |true=>
          simp only [↓reduceIte,Bool.true_or];exact Ev.now _
        |false=>
          simp only [Bool.false_eq_true,↓reduceIte,Bool.false_or];exact ih (x+1) (by omega) (by omega)
    have tail:Ev (fun k=>spec_l3Goes.j0 k o p v (i:Int) false) (if v.length=p.length then true else anyT (fun y t=>goS p m (v++[y]) t) (o.drop i)):=by
      by_cases hl:v.length=p.length
      · have c:(v.length:Int)=(p.length:Int):=by omega
        rw [if_pos hl];exact Ev.step (f:=fun _=>some true) (fun k=>by simp only [spec_l3Goes.j0,c,Bool.false_eq_true,↓reduceIte]) (Ev.now _)
      · have c:¬ (v.length:Int)=(p.length:Int):=by omega
        rw [if_neg hl];exact Ev.step (fun k=>by simp only [spec_l3Goes.j0,c,Bool.false_eq_true,↓reduceIte]) (loop (fun e=>hl e.symm) _ i rfl hi)
    simp only [goS];by_cases h0:0 < v.length
    · have c:(v.length:Int) > 0:=by omega
      have c0:0≤(v.length:Int):=by omega
      have c1:(v.length:Int)≤(p.length:Int):=by omega
      refine Ev.step (f:=fun k=>(spec_l3Shape.f k v).bind fun t186=>(if 0≤(v.length:Int) then (if (v.length:Int)≤(p.length:Int) then ((spec_l3Shape.f k (p.take ((v.length:Int):Int).toNat)).bind fun t190=>((spec_l1Same.f k t186 t190).bind fun t193=>(spec_l3Goes.j0 k o p v (i:Int) (!t193)))) else (none)) else (none))) (fun k=>by simp only [spec_l3Goes.f,c,↓reduceIte]) ?_;refine Ev.bind (ev_shapeS v (by omega)) ?_;simp only [c0,c1,Int.toNat_natCast,↓reduceIte];refine Ev.bind (ev_shapeS (p.take v.length) (by rw [List.length_take];omega)) ?_;refine Ev.bind (ev_Same _ _ (by rw [shapeV_len];omega) (by rw [shapeV_len,List.length_take];omega)) ?_;by_cases hs:shapeV v=shapeV (p.take v.length)
      · have e1:¬ (0 < v.length∧shapeV v≠shapeV (p.take v.length)):=fun h=>h.2 hs
        rw [if_neg e1];simp only [hs,decide_true,Bool.not_true];exact tail
      · have e1:(0 < v.length∧shapeV v≠shapeV (p.take v.length)):=⟨h0,hs⟩
        rw [if_pos e1];simp only [hs,decide_false,Bool.not_false];exact Ev.step (f:=fun _=>some false) (fun k=>by simp only [spec_l3Goes.j0,↓reduceIte]) (Ev.now _)
    · have c:¬ (v.length:Int) > 0:=by omega
      have e1:¬ (0 < v.length∧shapeV v≠shapeV (p.take v.length)):=fun h=>h0 h.1
      rw [if_neg e1];exact Ev.step (fun k=>by simp only [spec_l3Goes.f,c,↓reduceIte]) tail
theorem ev_l3In (o p:List Int) (ho:o.length≤7) (hp:p.length≤7):Ev (fun k=>spec_l3In.f k o p) (hasB o p):=by
  unfold spec_l3In.f hasB;have:=ev_goes o p ho hp (p.length+1) [] 0 (by simp) (by simp) (by omega);exact Ev.bind this (Ev.now _)
theorem ev_l3Avoids (pats:List (List Int)) (h4:pats.length≤4) (hp:∀ p ∈ pats,ordB p=true) (o:List Int) (ho:o.length≤7):Ev (fun k=>spec_l3Avoids.f k o pats) (avB pats o):=by
  have go:∀ (d j:Nat),j+d=pats.length→Ev (fun k=>spec_l3Avoids.l0 k o pats (j:Int)) ((pats.drop j).all fun p=> !hasB o p):=by
    intro d
    induction d with
    |zero=>
      intro j hj;have c:¬ (j:Int) < (pats.length:Int):=by omega
      rw [List.drop_of_length_le (show pats.length≤j by omega)];exact Ev.step (f:=fun _=>some true) (fun k=>by simp only [spec_l3Avoids.l0,c,↓reduceIte]) (Ev.now _)
    |succ d ih=>
      intro j hj;have c:(j:Int) < (pats.length:Int):=by omega
      have c0:0≤(j:Int):=by omega
      have hjl:j < pats.length:=by omega
      have ej:=qA (show wrap64 ((j:Int)+1)=((j+1:Nat):Int) from wj (by omega));have er:rd_L2 pats (j:Int)=pats[j]:=by unfold rd_L2;rw [Int.toNat_natCast];simp [hjl]
      rw [List.drop_eq_getElem_cons hjl,List.all_cons];refine Ev.step (f:=fun k=>(spec_l3In.f k o pats[j]).bind fun t210=>(if t210=true then (some false) else (spec_l3Avoids.l0 k o pats ((j+1:Nat):Int)))) (fun k=>by simp only [spec_l3Avoids.l0,c,c0,er,ej.out,↓reduceIte]) ?_;refine Ev.bind (ev_l3In o pats[j] ho (ordB_len (hp _ (List.getElem_mem hjl))).2) ?_
      cases hasB o pats[j] with
      |true=>
        simp only [↓reduceIte,Bool.not_true,Bool.false_and];exact Ev.now _
      |false=>
        simp only [Bool.false_eq_true,↓reduceIte,Bool.not_false,Bool.true_and];exact ih (j+1) (by omega)
  have:=go pats.length 0 (by omega);exact this
theorem ev_l3Insert (o:List Int) (q:Int) (ho:o.length≤7) (hq:0≤q∧q≤100) (hx:∀ x ∈ o,0≤x∧x≤100):Ev (fun k=>spec_l3Insert.f k o q) (insV o q):=by
  have go:∀ (d j:Nat),j+d=o.length→Ev (fun k=>spec_l3Insert.l0 k o q ((o.take j).map fun x=>if x≥q then x+1 else x) (j:Int)) (insV o q):=by
    intro d
    induction d with
    |zero=>
      intro j hj;have c:¬ (j:Int) < (o.length:Int):=by omega
      have lim:((o.take j).map fun x=>if x≥q then x+1 else x).length < 17592186044416:=by simp;omega
      refine Ev.step (f:=fun _=>some (insV o q)) (fun k=>by simp only [spec_l3Insert.l0,c,lim,↓reduceIte];rw [List.take_of_length_le (show o.length≤j by omega)];rfl) (Ev.now _)
    |succ d ih=>
      intro j hj;have c:(j:Int) < (o.length:Int):=by omega
      have c0:0≤(j:Int):=by omega
      have lim:((o.take j).map fun x=>if x≥q then x+1 else x).length < 17592186044416:=by simp;omega
      have ej:=qA (show wrap64 ((j:Int)+1)=((j+1:Nat):Int) from wj (by omega));have hm:=hx (rd o (j:Int)) (by rw [rd_get o j (by omega)];exact List.getElem_mem _);have nx:=ih (j+1) (by omega);rw [take_succ o j (by omega),List.map_append,List.map_cons,List.map_nil] at nx;by_cases h:rd o (j:Int)≥q
      · rw [if_pos h] at nx;have ex:=qA (show wrap64 (rd o (j:Int)+1)=rd o (j:Int)+1 from wr (by omega) (by omega));exact Ev.step (fun k=>by simp only [spec_l3Insert.l0,c,c0,h,lim,ex.out,ej.out,↓reduceIte]) nx
      · rw [if_neg h] at nx;exact Ev.step (fun k=>by simp only [spec_l3Insert.l0,c,c0,h,lim,ej.out,↓reduceIte]) nx
  have:=go o.length 0 (by omega);exact this
theorem avL_mem (pats:List (List Int)):∀ (n:Nat) (o:List Int),n≤50→o ∈ avL pats n→o.length=n∧∀ x ∈ o,0≤x∧x≤(n:Int)
  |0,o,_,h=>by
    simp only [avL,List.mem_singleton] at h;subst h;exact ⟨rfl,by simp⟩
  |n+1,o,hn,h=>by
    simp only [avL,List.mem_flatMap] at h;obtain ⟨u,hu,h⟩:=h;obtain ⟨h,_⟩:=List.mem_filter.1 h;obtain ⟨j,hj,rfl⟩:=List.mem_map.1 h;rw [List.mem_range] at hj;obtain ⟨a,b⟩:=avL_mem pats n u (by omega) hu;refine ⟨by simp [insV,a],fun x hx=>?_⟩;unfold insV at hx
    rcases List.mem_append.1 hx with hx|hx
    · obtain ⟨y,hy,rfl⟩:=List.mem_map.1 hx;have:=b y hy
      split<;>omega
    · rw [List.mem_singleton] at hx;omega
theorem flat_le {α β:Type} (f:α→List β) (m:Nat) (h:∀ a,(f a).length≤m):∀ l:List α,(l.flatMap f).length≤l.length*m
  |[]=>by simp
  |a :: t=>by
    rw [List.flatMap_cons,List.length_append,List.length_cons,Nat.succ_mul];have:=flat_le f m h t;have:=h a;omega
theorem step_le (pats:List (List Int)) (n:Nat) (o:List Int):(((List.range (n+1)).map fun j=>insV o ((j+1:Nat):Int)).filter (avB pats)).length≤n+1:=by
  refine Nat.le_trans (List.length_filter_le _ _) ?_;simp
theorem avL_le (pats:List (List Int)):∀ n,(avL pats n).length≤fct n
  |0=>by simp [avL,fct]
  |n+1=>by
    simp only [avL];refine Nat.le_trans (flat_le _ (n+1) (step_le pats n) _) ?_;rw [fct,Nat.mul_comm (n+1)];exact Nat.mul_le_mul_right _ (avL_le pats n)
theorem ev_l3Avoiding (pats:List (List Int)) (h4:pats.length≤4) (hp:∀ p ∈ pats,ordB p=true) (n:Nat) (h6:n≤6):Ev (fun k=>spec_l3Avoiding.f k (n:Int) pats) (avL pats n):=by
  have go:∀ (d i:Nat),i+d=n→Ev (fun k=>spec_l3Avoiding.l0 k (n:Int) pats (avL pats i) (i:Int)) (avL pats n):=by
    intro d
    induction d with
    |zero=>
      intro i hi;have c:¬ (i:Int) < (n:Int):=by omega
      obtain rfl:i=n:=by omega
      exact Ev.step (f:=fun _=>some (avL pats i)) (fun k=>by simp only [spec_l3Avoiding.l0,c,↓reduceIte]) (Ev.now _)
    |succ d ih=>
      intro i hi;have c:(i:Int) < (n:Int):=by omega
      have ei:=qA (show wrap64 ((i:Int)+1)=((i+1:Nat):Int) from wj (by omega));have hle:=avL_le pats i;have hf:=fct_le i (by omega);have nx:=ih (i+1) (by omega)
      obtain ⟨A,hA⟩:∃ A,A=avL pats i:=⟨_,rfl⟩
      have hmem:∀ o ∈ A,o.length=i∧∀ x ∈ o,0≤x∧x≤(i:Int):=fun o ho=>avL_mem pats i o (by omega) (by rw [← hA];exact ho)
      simp only [avL] at nx;rw [← hA] at nx hle ⊢
      obtain ⟨f,hf_⟩:∃ f:List Int→List (List Int),f=fun o=>((List.range (i+1)).map fun j=>insV o ((j+1:Nat):Int)).filter (avB pats):=⟨_,rfl⟩
      rw [← hf_] at nx;have hfl:∀ o,(f o).length≤i+1:=fun o=>by rw [hf_];exact step_le pats i o
      have mid:∀ (e x:Nat),x+e=A.length→Ev (fun k=>spec_l3Avoiding.l1 k (n:Int) pats A (i:Int) ((A.take x).flatMap f) (x:Int)) (avL pats n):=by
        intro e
        induction e with
        |zero=>
          intro x hx;have c':¬ (x:Int) < (A.length:Int):=by omega
          rw [List.take_of_length_le (show A.length≤x by omega)];exact Ev.step (fun k=>by simp only [spec_l3Avoiding.l1,c',ei.out,↓reduceIte]) nx
        |succ e ihe=>
          intro x hx;have c':(x:Int) < (A.length:Int):=by omega
          have c0':0≤(x:Int):=by omega
          have hxl:x < A.length:=by omega
          have ex:=qA (show wrap64 ((x:Int)+1)=((x+1:Nat):Int) from wj (by omega));have er:rd_L2 A (x:Int)=A[x]:=by unfold rd_L2;rw [Int.toNat_natCast];simp [hxl]
          have nj:=ihe (x+1) (by omega);rw [List.take_succ_eq_append_getElem hxl,List.flatMap_append,List.flatMap_cons,List.flatMap_nil,List.append_nil] at nj
          obtain ⟨o1,ho1⟩:∃ o1,o1=A[x]:=⟨_,rfl⟩
          have hmo:=hmem o1 (by rw [ho1];exact List.getElem_mem hxl);rw [← ho1] at nj er
          have hbnd:((A.take x).flatMap f).length≤5040*7:=by
            have h1:=flat_le f (i+1) hfl (A.take x);have h2:(A.take x).length≤5040:=by rw [List.length_take];omega
            have h3:=Nat.mul_le_mul h2 (show i+1≤7 by omega);omega
          obtain ⟨B,hB⟩:∃ B,B=(A.take x).flatMap f:=⟨_,rfl⟩
          rw [← hB] at nj hbnd ⊢
          have inn:∀ (g q:Nat),q+g=i+1→Ev (fun k=>spec_l3Avoiding.l2 k (n:Int) pats A (i:Int) (B++((List.range q).map fun j=>insV o1 ((j+1:Nat):Int)).filter (avB pats)) (x:Int) ((q+1:Nat):Int)) (avL pats n):=by
            intro g
            induction g with
            |zero=>
              intro q hq;have c2:¬ ((q+1:Nat):Int)≤((i+1:Nat):Int):=by omega
              obtain rfl:q=i+1:=by omega
              rw [hf_] at nj;exact Ev.step (fun k=>by simp only [spec_l3Avoiding.l2,ei.out,c2,ex.out,↓reduceIte]) nj
            |succ g ihg=>
              intro q hq;have c2:((q+1:Nat):Int)≤((i+1:Nat):Int):=by omega
              have eq_:=qA (show wrap64 (((q+1:Nat):Int)+1)=((q+1+1:Nat):Int) from wj (by omega));have nq:=ihg (q+1) (by omega);rw [List.range_succ,List.map_append,List.map_cons,List.map_nil,List.filter_append] at nq
              have lim:(B++((List.range q).map fun j=>insV o1 ((j+1:Nat):Int)).filter (avB pats)).length < 5864062014805:=by
                have:=List.length_filter_le (avB pats) ((List.range q).map fun j=>insV o1 ((j+1:Nat):Int));simp only [List.length_map,List.length_range] at this;rw [List.length_append];omega
              refine Ev.step (f:=fun k=>(spec_l3Insert.f k o1 ((q+1:Nat):Int)).bind fun t221=>((spec_l3Avoids.f k t221 pats).bind fun t224=>(if t224=true then (if (B++((List.range q).map fun j=>insV o1 ((j+1:Nat):Int)).filter (avB pats)).length < 5864062014805 then (spec_l3Avoiding.l2 k (n:Int) pats A (i:Int) ((B++((List.range q).map fun j=>insV o1 ((j+1:Nat):Int)).filter (avB pats))++[t221]) (x:Int) ((q+1+1:Nat):Int)) else (none)) else (spec_l3Avoiding.l2 k (n:Int) pats A (i:Int) (B++((List.range q).map fun j=>insV o1 ((j+1:Nat):Int)).filter (avB pats)) (x:Int) ((q+1+1:Nat):Int))))) (fun k=>by simp only [spec_l3Avoiding.l2,ei.out,c2,c',c0',er,eq_.out,↓reduceIte]) ?_;refine Ev.bind (ev_l3Insert o1 ((q+1:Nat):Int) (by omega) (by omega) (fun z hz=>by have:=hmo.2 z hz;omega)) ?_;refine Ev.bind (ev_l3Avoids pats h4 hp (insV o1 ((q+1:Nat):Int)) (by simp [insV];omega)) ?_
              cases hav:avB pats (insV o1 ((q+1:Nat):Int)) with
              |true=>
                simp only [lim,↓reduceIte];rw [List.filter_cons,hav,List.filter_nil] at nq;simp only [↓reduceIte] at nq;rw [List.append_assoc];exact nq
              |false=>
                simp only [Bool.false_eq_true,↓reduceIte];rw [List.filter_cons,hav,List.filter_nil] at nq;simp only [Bool.false_eq_true,↓reduceIte,List.append_nil] at nq;exact nq
          have:=inn (i+1) 0 (by omega);simp only [List.range_zero,List.map_nil,List.filter_nil,List.append_nil] at this;exact Ev.step (fun k=>by simp only [spec_l3Avoiding.l1,c',↓reduceIte];rfl) this
      have:=mid A.length 0 (by omega);simp only [List.take_zero,List.flatMap_nil] at this;exact Ev.step (fun k=>by simp only [spec_l3Avoiding.l0,c,↓reduceIte];rfl) this
  have:=go n 0 (by omega);exact this
theorem ev_l3Patterns (pats:List (List Int)) (hlim:pats.length≤1048576):Ev (fun k=>spec_l3Patterns.f k pats) (decide (pats.length≤4)&&pats.all ordB):=by
  have go:∀ (d j:Nat),j+d=pats.length→j≤5→(pats.take j).all ordB=true→Ev (fun k=>spec_l3Patterns.l0 k pats (j:Int)) (decide (pats.length≤4)&&pats.all ordB):=by
    intro d
    induction d with
    |zero=>
      intro j hj h5 ha;have c:¬ (j:Int) < (pats.length:Int):=by omega
      rw [List.take_of_length_le (show pats.length≤j by omega)] at ha;rw [ha,Bool.and_true];refine Ev.step (f:=fun k=>spec_l3Patterns.j1 k pats (j:Int) false) (fun k=>by simp only [spec_l3Patterns.l0,c,↓reduceIte]) ?_;refine Ev.step (f:=fun _=>some (decide (pats.length≤4))) (fun k=>by simp only [spec_l3Patterns.j1,Bool.false_eq_true,↓reduceIte];congr 1;rw [decide_eq_decide];omega) (Ev.now _)
    |succ d ih=>
      intro j hj h5 ha;have c:(j:Int) < (pats.length:Int):=by omega
      have c0:0≤(j:Int):=by omega
      have hjl:j < pats.length:=by omega
      have ej:=qA (show wrap64 ((j:Int)+1)=((j+1:Nat):Int) from wj (by omega));have er:rd_L2 pats (j:Int)=pats[j]:=by unfold rd_L2;rw [Int.toNat_natCast];simp [hjl]
      refine Ev.step (f:=fun k=>spec_l3Patterns.j1 k pats (j:Int) (decide ((j:Int)≤4))) (fun k=>by simp only [spec_l3Patterns.l0,c,↓reduceIte]) ?_;by_cases h4:j≤4
      · have e4:decide ((j:Int)≤4)=true:=decide_eq_true (by omega);rw [e4];refine Ev.step (f:=fun k=>(spec_l2Order.f k pats[j]).bind fun t162=>(if t162=true then (spec_l3Patterns.l0 k pats ((j+1:Nat):Int)) else (some false))) (fun k=>by simp only [spec_l3Patterns.j1,c,c0,er,ej.out,↓reduceIte]) ?_;refine Ev.bind (ev_l2Order pats[j]) ?_
        cases ho:ordB pats[j] with
        |true=>
          simp only [↓reduceIte];refine ih (j+1) (by omega) (by omega) ?_;rw [List.take_succ_eq_append_getElem hjl,List.all_append,ha];simp [ho]
        |false=>
          simp only [Bool.false_eq_true,↓reduceIte]
          have:pats.all ordB=false:=by
            rw [List.all_eq_false];exact ⟨pats[j],List.getElem_mem hjl,by simp [ho]⟩
          rw [this,Bool.and_false];exact Ev.now _
      · have e4:decide ((j:Int)≤4)=false:=decide_eq_false (by omega);have e5:decide (pats.length≤4)=false:=decide_eq_false (by omega);rw [e4,e5,Bool.false_and];refine Ev.step (f:=fun _=>some false) (fun k=>by simp only [spec_l3Patterns.j1,Bool.false_eq_true,↓reduceIte];congr 1;rw [decide_eq_false_iff_not];omega) (Ev.now _)
  have:=go pats.length 0 (by omega) (by omega) (by simp);exact this
theorem both_ChanceAvoids (n:Int) (pats:List (List Int)) (hl:pats.length≤1048576):∃ r:Int × Int × Bool,Ev (fun k=>spec_ChanceAvoids.f k n pats) r∧Ev (fun k=>impl_ChanceAvoids.f k n pats) r∧r.2.2=((decide (1≤n)&&decide (n≤6))&&(decide (pats.length≤4)&&pats.all ordB))∧(r.2.2=true→Ev (fun k=>spec_l9Cut.f k (((ords n.toNat).map fun o=>if avB pats o=true then (1:Int) else 0).sum) (fct n.toNat:Int)) (r.1,r.2.1)):=by
  unfold spec_ChanceAvoids.f impl_ChanceAvoids.f;simp only [ev_l9Size,Option.bind_some]
  cases hs:(decide (1≤n)&&decide (n≤6)) with
  |false=>
    refine ⟨(0,0,false),?_,?_,rfl,fun h_=>absurd h_ Bool.false_ne_true⟩
    · simp only [Bool.false_eq_true,↓reduceIte];exact Ev.step (f:=fun _=>some (0,0,false)) (fun k=>by simp only [spec_ChanceAvoids.j0,↓reduceIte]) (Ev.now _)
    · refine Ev.bind (ev_arF pats) ?_;exact Ev.congr (fun k=>drawn_no _ n _ k (by rw [hs];rfl)) (Ev.now _)
  |true=>
    simp only [↓reduceIte]
    cases hp:(decide (pats.length≤4)&&pats.all ordB) with
    |false=>
      refine ⟨(0,0,false),?_,?_,rfl,fun h_=>absurd h_ Bool.false_ne_true⟩
      · refine Ev.bind (ev_l3Patterns pats hl) ?_;rw [hp];exact Ev.step (f:=fun _=>some (0,0,false)) (fun k=>by simp only [spec_ChanceAvoids.j0,Bool.not_false,↓reduceIte]) (Ev.now _)
      · refine Ev.bind (ev_arF pats) ?_;rw [hp];exact Ev.congr (fun k=>drawn_no _ n false k (by simp)) (Ev.now _)
    |true=>
      have hp':=hp;simp only [Bool.and_eq_true,decide_eq_true_eq,List.all_eq_true] at hs hp
      obtain ⟨n,rfl⟩:∃ m:Nat,n=(m:Int):=⟨n.toNat,by omega⟩
      have h1:1≤n:=by omega
      have h6:n≤6:=by omega
      obtain ⟨r,r1,r2,r3,r4⟩:=ev_drawn (fun k=>chF (avF k pats)) (fun o=>if avB pats o=true then (1:Int) else 0) 1 (by omega) (by omega) n h1 h6 (fun o ho=>by
        have hlen:=(ords_mem ho).2;refine ⟨?_,by split<;>omega,by split<;>omega⟩;unfold chF;refine Ev.bind (ev_avF pats hp.1 hp.2 o (by omega)) ?_
        cases avB pats o with
        |true=>exact Ev.now _
        |false=>exact Ev.now _)
      refine ⟨(r.1,r.2,true),?_,?_,rfl,fun _=>by rw [Int.toNat_natCast];exact r2⟩
      · refine Ev.bind (ev_l3Patterns pats hl) ?_;rw [hp'];refine Ev.step (f:=fun k=>(spec_l3Avoiding.f k (n:Int) pats).bind fun t231=>((spec_l2Orders.f k (n:Int)).bind fun t234=>((spec_l9Cut.f k (t231.length:Int) (t234.length:Int)).bind fun bt237=>(some (bt237.1,bt237.2,true))))) (fun k=>by simp only [spec_ChanceAvoids.j0,Bool.not_true,Bool.false_eq_true,↓reduceIte]) ?_;refine Ev.bind (ev_l3Avoiding pats hp.1 hp.2 n h6) ?_;refine Ev.bind (ev_l2Orders n (by omega)) ?_;rw [avL_count hp.2 n h1 h6,ords_len];exact Ev.bind r2 (Ev.now _)
      · refine Ev.bind (ev_arF pats) ?_;rw [hp'];exact r1

end Go.Proofs.YtaoecbpfocillaaGreat.Pure
