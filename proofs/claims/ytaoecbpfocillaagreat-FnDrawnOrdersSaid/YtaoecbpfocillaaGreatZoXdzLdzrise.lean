/- The longest rises of all orders. -/
import Derived.Test.YtaoecbpfocillaaGreatZoXdzHdz
import Derived.Test.YtaoecbpfocillaaGreatZoXdz14
import Derived.Test.YtaoecbpfocillaaGreatZoXdzHrows5
import Derived.Test.YtaoecbpfocillaaGreatZoXdz10
import Derived.Test.YtaoecbpfocillaaGreatZoPk
import Derived.Test.YtaoecbpfocillaaGreatZoXdzLdzbase
set_option linter.unusedVariables false
set_option linter.unusedSimpArgs false
namespace Go.Proofs.YtaoecbpfocillaaGreat.Pure
open Go.RowKit Go.Proofs.YtaoecbpfocillaaGreat.Xdz Go.Proofs.YtaoecbpfocillaaGreatW.PrintWords Go.Proofs.YtaoecbpfocillaaGreatW.PrintLast Go.Proofs.YtaoecbpfocillaaGreat.Pk

/-! ### the longest rises of all orders -/
def riN (l:List Int):Nat:=((riF 20 l).getD 0).toNat
/-- What is looked at for each order. -/
def riB (l:List Int):Bool:=match riF 20 l,spec_l5Rows.f 20 l with
  |some a,some (r :: _,_)=>decide (a=(r.length:Int))&&decide (r.length≤7)
  |_,_=>false
theorem ri_1:(ords 1).all riB=true:=by decide+kernel
theorem ri_2:(ords 2).all riB=true:=by decide+kernel
theorem ri_3:(ords 3).all riB=true:=by decide+kernel
theorem ri_4:(ords 4).all riB=true:=by decide+kernel
theorem ri_5:(ords 5).all riB=true:=by decide+kernel
theorem ri_60:(((ords 6).drop 0).take 120).all riB=true:=by decide+kernel
theorem ri_61:(((ords 6).drop 120).take 120).all riB=true:=by decide+kernel
theorem ri_62:(((ords 6).drop 240).take 120).all riB=true:=by decide+kernel
theorem ri_63:(((ords 6).drop 360).take 120).all riB=true:=by decide+kernel
theorem ri_64:(((ords 6).drop 480).take 120).all riB=true:=by decide+kernel
theorem ri_65:(((ords 6).drop 600).take 120).all riB=true:=by decide+kernel
theorem ri_parts {α:Type} (p:α→Bool) (l:List α) (m:Nat) (h1:(l.take m).all p=true) (h2:(l.drop m).all p=true):l.all p=true:=by
  rw [← List.take_append_drop m l,List.all_append,h1,h2];rfl
theorem ri_6:(ords 6).all riB=true:=by
  refine ri_parts riB _ 120 ri_60 ?_;refine ri_parts riB _ 120 ri_61 ?_;rw [List.drop_drop];refine ri_parts riB _ 120 ri_62 ?_;rw [List.drop_drop];refine ri_parts riB _ 120 ri_63 ?_;rw [List.drop_drop];refine ri_parts riB _ 120 ri_64 ?_;rw [List.drop_drop];refine ri_parts riB _ 120 ri_65 ?_;rw [List.drop_drop,List.drop_of_length_le (by rw [ords_len];decide)];rfl
theorem rise_all (n:Nat) (h1:1≤n) (h6:n≤6):∀ o ∈ ords n,Ev (fun k=>riF k o) (riN o:Int)∧(∃ r rs tw,Ev (fun k=>spec_l5Rows.f k o) (r :: rs,tw)∧r.length=riN o)∧riN o≤7:=by
  intro o ho
  have hall:(ords n).all riB=true:=by
    have:n=1∨n=2∨n=3∨n=4∨n=5∨n=6:=by omega
    rcases this with rfl|rfl|rfl|rfl|rfl|rfl
    · exact ri_1
    · exact ri_2
    · exact ri_3
    · exact ri_4
    · exact ri_5
    · exact ri_6
  have hb:=List.all_eq_true.1 hall o ho;unfold riB at hb
  cases h1:riF 20 o with
  |none=>rw [h1] at hb;cases hb
  |some a=>
    cases h2:spec_l5Rows.f 20 o with
    |none=>rw [h1,h2] at hb;cases hb
    |some p=>
      obtain ⟨rows,tw⟩:=p
      cases rows with
      |nil=>rw [h1,h2] at hb;cases hb
      |cons r rs=>
        rw [h1,h2] at hb;simp only [Bool.and_eq_true,decide_eq_true_eq] at hb
        have hn:riN o=r.length:=by
          unfold riN;rw [h1,Option.getD_some,hb.1];rfl
        refine ⟨⟨20,fun k hk=>?_⟩,⟨r,rs,tw,⟨20,fun k hk=>?_⟩,hn.symm⟩,by omega⟩
        · rw [hn,← hb.1];exact at_rounds (g:=fun k=>riF k o) (fun m=>riF_le m o) hk h1
        · exact at_rounds (g:=fun k=>spec_l5Rows.f k o) (fun m=>spec_l5Rows.mono o m) hk h2
theorem both_MeanRise (n:Int):∃ r:Int × Int × Bool,Ev (fun k=>spec_MeanRise.f k n) r∧Ev (fun k=>impl_MeanRise.f k n) r∧r.2.2=(decide (1≤n)&&decide (n≤6))∧(r.2.2=true→Ev (fun k=>spec_l9Cut.f k (((ords n.toNat).map (fun l=>(riN l:Int))).sum) (fct n.toNat:Int)) (r.1,r.2.1)):=by
  unfold spec_MeanRise.f impl_MeanRise.f;simp only [ev_l9Size,Option.bind_some]
  cases hs:(decide (1≤n)&&decide (n≤6)) with
  |false=>
    refine ⟨(0,0,false),?_,?_,rfl,fun h_=>absurd h_ Bool.false_ne_true⟩
    · simp only [Bool.false_eq_true,↓reduceIte];exact Ev.now _
    · exact Ev.congr (fun k=>drawn_no _ n true k (by rw [hs];rfl)) (Ev.now _)
  |true=>
    simp only [Bool.and_eq_true,decide_eq_true_eq] at hs
    obtain ⟨n,rfl⟩:∃ m:Nat,n=(m:Int):=⟨n.toNat,by omega⟩
    have h1:1≤n:=by omega
    have h6:n≤6:=by omega
    obtain ⟨r,r1,r2,r3,r4⟩:=ev_drawn (fun k l=>riF k l) (fun l=>(riN l:Int)) 7 (by omega) (by omega) n h1 h6 (fun o ho=>by
      obtain ⟨a1,_,a3⟩:=rise_all n h1 h6 o ho
      exact ⟨a1,by omega,by omega⟩)
    refine ⟨(r.1,r.2,true),?_,r1,rfl,fun _=>by rw [Int.toNat_natCast];exact r2⟩;have hb:=fct_le n (by omega)
    have go:∀ (d i:Nat) (s:Int),i+d=(ords n).length→0≤s→s+(((ords n).drop i).map fun l=>(riN l:Int)).sum=((ords n).map fun l=>(riN l:Int)).sum→(∀ j,0≤(((ords n).drop j).map fun l=>(riN l:Int)).sum)→Ev (fun k=>spec_MeanRise.l0 k s (ords n) (i:Int)) (r.1,r.2,true):=by
      intro d
      induction d with
      |zero=>
        intro i s hi hs0 hs hpos;have c:¬ (i:Int) < ((ords n).length:Int):=by omega
        rw [List.drop_of_length_le (show (ords n).length≤i by omega)] at hs;simp only [List.map_nil,List.sum_nil,Int.add_zero] at hs;refine Ev.step (f:=fun k=>(spec_l9Cut.f k s ((ords n).length:Int)).bind fun bt845=>(some (bt845.1,bt845.2,true))) (fun k=>by simp only [spec_MeanRise.l0,c,↓reduceIte]) ?_;rw [hs,ords_len];exact Ev.bind r2 (Ev.now _)
      |succ d ih=>
        intro i s hi hs0 hs hpos;have c:(i:Int) < ((ords n).length:Int):=by omega
        have c1:0≤(i:Int):=by omega
        have ej:=qA (show wrap64 ((i:Int)+1)=((i+1:Nat):Int) from wj (by rw [ords_len] at hi;omega));have hil:i < (ords n).length:=by omega
        have hmem:(ords n)[i] ∈ ords n:=List.getElem_mem hil;rw [List.drop_eq_getElem_cons hil,List.map_cons,List.sum_cons] at hs;have hp1:=hpos (i+1);have es:=qA (show wrap64 (s+(riN (ords n)[i]:Int))=s+(riN (ords n)[i]:Int) from wr (by omega) (by omega));have er:(ords n).getD i []=(ords n)[i]:=by simp [hil]
        obtain ⟨_,⟨r0,rs,tw,a2,a4⟩,_⟩:=rise_all n h1 h6 _ hmem;refine Ev.step (f:=fun k=>(spec_l5Rows.f k (ords n)[i]).bind fun bt=>(if 0 < (bt.1.length:Int) then (spec_MeanRise.l0 k (wrap64 (s+((rd_L2 bt.1 0).length:Int))) (ords n) ((i+1:Nat):Int)) else none)) (fun k=>by simp only [spec_MeanRise.l0,c,c1,ej.out,↓reduceIte];rw [show rd_L2 (ords n) (i:Int)=(ords n)[i] by unfold rd_L2;rw [Int.toNat_natCast,er]]) ?_;refine Ev.bind a2 ?_;have c5:(0:Int) < (((r0 :: rs:List (List Int)),tw).1.length:Int):=by simp only [List.length_cons];omega
        have c6:((rd_L2 ((r0 :: rs:List (List Int)),tw).1 0).length:Int)=(riN (ords n)[i]:Int):=by rw [← a4];rfl
        simp only [c5,↓reduceIte,c6,es.out];exact ih (i+1) _ (by omega) (by omega) (by omega) hpos
    have hpos:∀ j,0≤(((ords n).drop j).map fun l=>(riN l:Int)).sum:=by
      intro j
      have:∀ l:List (List Int),0≤(l.map fun l=>(riN l:Int)).sum:=by
        intro l
        induction l with
        |nil=>simp
        |cons x t ih=>
          rw [List.map_cons,List.sum_cons];omega
      exact this _
    simp only [↓reduceIte];refine Ev.bind (ev_l2Orders n (by omega)) ?_;exact go (ords n).length 0 0 (by omega) (Int.le_refl _) (by simp) hpos

end Go.Proofs.YtaoecbpfocillaaGreat.Pure
