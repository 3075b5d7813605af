/- FnDrawnOrders: what the program draws of all orders: choose, means, chances, the longest rise, what avoids patterns. -/
import Derived.Test.YtaoecbpfocillaaGreatZoXdz0
import Derived.Test.YtaoecbpfocillaaGreatZoXdz2
import Derived.Test.YtaoecbpfocillaaGreatZoXdz4
import Derived.Test.YtaoecbpfocillaaGreatZoXdz5
import Derived.Test.YtaoecbpfocillaaGreatZoXdz6
import Derived.Test.YtaoecbpfocillaaGreatZoXdz7
import Derived.Test.YtaoecbpfocillaaGreatZoXdz8
import Derived.Test.YtaoecbpfocillaaGreatZoXdzHclone
import Derived.Test.YtaoecbpfocillaaGreatZoXdzHruns
import Derived.OneCell
import Derived.Laws.EntriesVeiled
import Derived.Lib.SliceRun
import Derived.Shelf.Abstract
import Derived.Outline
import Derived.Deep.RegionHeld3
import Derived.BigQuiet
import Derived.Deep.QuietTactic
import Derived.RegionTactic
import Derived.BigRegion
namespace Go.Proofs.YtaoecbpfocillaaGreat.Xdz
open Go.RowKit Go.Proofs.YtaoecbpfocillaaGreatW.PrintWords Go.Proofs.YtaoecbpfocillaaGreatW.PrintLast Go.Proofs.YtaoecbpfocillaaGreatW.PrintMore
attribute [local go_sem] max2_int min2_int max_two min_two max_three min_three max_four min_four
set_option linter.unusedVariables false
set_option linter.unusedSimpArgs false
theorem ch_cell {w:World} {b e:Nat} {v:Value} (h:w.heap[b]? =some (.cells #[v] e (0,0))):w.cell? ⟨b,0,none⟩=some v:=by simp [World.cell?,h]
/-- What stays: every block but those of O, and all but memory. -/
structure Fr (O:Nat→Prop) (W W2:World):Prop where
  os:W2.os=W.os
  tape:W2.tape=W.tape
  output:W2.output=W.output
  size:W.heap.size≤W2.heap.size
  block:∀ i,i < W.heap.size→¬ O i→W2.heap[i]? =W.heap[i]?
def Nw (O O2:Nat→Prop) (W:World):Prop:=∀ i,O2 i→O i∨W.heap.size≤i
section
variable {O O2 O3:Nat→Prop} {W W2 W3:World}
theorem Fr.refl (O:Nat→Prop) (W:World):Fr O W W:=⟨rfl,rfl,rfl,Nat.le_refl _,fun _ _ _=>rfl⟩
theorem Fr.of_below (h:Below W.heap.size W W2):Fr O W W2:=⟨h.os,h.tape,h.output,h.size,fun i hi _=>h.block i hi⟩
theorem Fr.trans (h:Fr O W W2) (hn:Nw O O2 W) (k:Fr O2 W2 W3):Fr O W W3:=⟨k.os.trans h.os,k.tape.trans h.tape,k.output.trans h.output,Nat.le_trans h.size k.size,fun i hi ho=>(k.block i (Nat.lt_of_lt_of_le hi h.size) (fun h2=>(hn i h2).elim ho (fun h3=>absurd hi (by omega)))).trans (h.block i hi ho)⟩
theorem Nw.refl (O:Nat→Prop) (W:World):Nw O O W:=fun _ h=>.inl h
theorem Nw.trans (h:Nw O O2 W) (hs:W.heap.size≤W2.heap.size) (k:Nw O2 O3 W2):Nw O O3 W:=fun i h3=>(k i h3).elim (h i) (fun h4=>.inr (Nat.le_trans hs h4))
theorem Fr.below {B:Nat} {w0:World} (h:Fr O W W2) (hb:Below B w0 W) (hB:B≤W.heap.size) (hO:∀ i,O i→B≤i):Below B w0 W2:=⟨h.os.trans hb.os,h.tape.trans hb.tape,h.output.trans hb.output,Nat.le_trans hb.size h.size,fun i hi=>(h.block i (Nat.lt_of_lt_of_le hi hB) (fun ho=>absurd (hO i ho) (by omega))).trans (hb.block i hi)⟩
end
/-- The cells of choose from block q on. -/
structure ChI (q g:Nat) (lb:Array Value) (n many:Int) (W:World):Prop where
  cn:W.heap[q]? =some (.cells #[.int .i64 n] 3 (0,0))
  cm:W.heap[q+1]? =some (.cells #[.int .i64 many] 3 (0,0))
  cw:W.heap[q+2]? =some (.cells #[.func (.func g) #[] lb] 53 (0,0))
  ca:W.heap[q+3]? =some (.cells #[.func (.func 142) #[] #[.pointer (some ⟨q+1,0,none⟩),.pointer (some ⟨q+2,0,none⟩),.pointer (some ⟨q,0,none⟩),.pointer (some ⟨q+3,0,none⟩)]] 99 (0,0))
theorem ChI.fr {q g:Nat} {lb:Array Value} {n many:Int} {W W2:World} {O:Nat→Prop} (h:ChI q g lb n many W) (hf:Fr O W W2) (hq:∀ i,O i→i < q∨q+4≤i):ChI q g lb n many W2:=
  ⟨(hf.block _ (lt_of_block h.cn) (fun ho=>by have:=hq _ ho;omega)).trans h.cn,(hf.block _ (lt_of_block h.cm) (fun ho=>by have:=hq _ ho;omega)).trans h.cm,(hf.block _ (lt_of_block h.cw) (fun ho=>by have:=hq _ ho;omega)).trans h.cw,(hf.block _ (lt_of_block h.ca) (fun ho=>by have:=hq _ ho;omega)).trans h.ca⟩
theorem ChI.below {q g:Nat} {lb:Array Value} {n many:Int} {W W2:World} (h:ChI q g lb n many W) (hb:Below W.heap.size W W2):ChI q g lb n many W2:=h.fr (O:=fun _=>False) (Fr.of_below hb) (fun _ h_=>h_.elim)
/-- A row of one's own beside what O may change. -/
theorem row_fr {W W2:World} {O O2:Nat→Prop} {base:Nat} {v:Value} {d:List Int} (hR:Kd.R (Kd.int .i64) 3 W base (fun k=>¬ O k) v d) (hf:Fr O W W2) (hn:Nw O O2 W):Kd.R (Kd.int .i64) 3 W2 base (fun k=>¬ O2 k) v d:=
  Kd.R_mono (Kd.R_move (Kd.R_bound hR) (fun k hk=>hf.block k hk.2.2.1 hk.1)) (fun k hk h2=>(hn k h2).elim hk.1 (fun h3=>absurd hk.2.2.1 (by omega)))
theorem row_new {W:World} {O:Nat→Prop} {base:Nat} {v:Value} {d:List Int} (hR:Kd.R (Kd.int .i64) 3 W base (fun _=>True) v d) (hO:∀ i,O i→i < base):Kd.R (Kd.int .i64) 3 W base (fun k=>¬ O k) v d:=
  Kd.R_mono (Kd.R_bound hR) (fun k hk h2=>absurd (hO k h2) (by have:=hk.2.1;omega))
section
variable {σ:Type}
/-- Places from i on, as long as it isn't enough. -/
def cwL (G:Nat→σ→Option (Bool × σ)):Nat→Nat→σ→Option (Bool × σ)
  |0,_,s=>some (false,s)
  |c+1,i,s=>(G i s).bind fun r=>if r.1=true then some (true,r.2) else cwL G c (i+1) r.2
def cwF (F:List Int→σ→Option (Bool × σ)) (n many:Nat):Nat→List Int→Nat→σ→Option (Bool × σ)
  |0,_,_,_=>none
  |m+1,d,i,s=>if d.length=many then F d s else cwL (fun x s=>cwF F n many m (d++[(x:Int)]) (x+1) s) (n - i) i s
theorem cwL_le {G H:Nat→σ→Option (Bool × σ)} (h:∀ i s,LeO (G i s) (H i s)):∀ c i s,LeO (cwL G c i s) (cwL H c i s)
  |0,_,_=>LeO.refl _
  |c+1,i,s=>LeO.bind (h i s) fun _=>LeO.ite (LeO.refl _) (cwL_le h c _ _)
theorem cwF_le {F G:List Int→σ→Option (Bool × σ)} (h:∀ d s,LeO (F d s) (G d s)) (n many:Nat):∀ m d i s,LeO (cwF F n many m d i s) (cwF G n many m d i s)
  |0,_,_,_=>LeO.none _
  |m+1,d,i,s=>LeO.ite (h d s) (cwL_le (fun x s=>cwF_le h n many m _ _ s) _ _ _)
/-- A function value that tells F of lists and of its state s; what it may write is O. -/
def Steps (P:Program) (g:Nat) (lb:Array Value) (F:List Int→σ→Option (Bool × σ)) (I:σ→(Nat→Prop)→World→Prop):Prop:=
  ∀ (W:World) (A:Option Addr) (c:Nat) (l:List Int) (s s':σ) (b:Bool) (O:Nat→Prop),Kd.C (Kd.int .i64) W A l.length l→l.length≤c→l.length≤1000→F l s=some (b,s')→I s O W→
    Calls P g (#[.slice A l.length c]++lb) W fun e w'=>e=.returned (.bool b)∧∃ O',I s' O' w'∧Fr O W w'∧Nw O O' W
theorem Steps.at_ {P:Program} {g:Nat} {lb:Array Value} {F:List Int→σ→Option (Bool × σ)} {I:σ→(Nat→Prop)→World→Prop} (h:Steps P g lb F I) (W:World) (A:Option Addr) (c:Nat) (l:List Int) (s s':σ) (b:Bool) (O:Nat→Prop) (hC:Kd.C (Kd.int .i64) W A l.length l) (hc:l.length≤c) (hl:l.length≤1000) (hF:F l s=some (b,s')) (hI:I s O W):
    Calls P g (#[.slice A l.length c]++lb) W fun e w'=>e=.returned (.bool b)∧∃ O',I s' O' w'∧Fr O W w'∧Nw O O' W:=h W A c l s s' b O hC hc hl hF hI
variable {ops:Array Oper} {rest:List Oper} {o:Oper} {a:Act} {Q:Exit→Act→World→Prop} {Kc:Act→World→Prop}
/-- A number behind a row of one's own, in a region that draws. -/
theorem app1_step {W:World} (hw:Region.wanted o (yielded ops a.tmps)=true) (s x:Operand) (ho:o.op=.call { callee:=.builtin .append,args:= #[s,x],argTypes:= #[36,36] }) (base:Nat) (v:Value) (d:List Int) (y:Int) (ad:Addr) (hs:a.eval s=v) (hx:a.eval x=.slice (some ad) 1 1)
    (hR:Kd.R (Kd.int .i64) 3 W base (fun _=>True) v d) (hcell:W.cell? (ad.add 0)=some (.int .i64 y)) (hl:d.length≤1000) (hbase:base≤W.heap.size)
    (h:∀ v1 w1,Kd.R (Kd.int .i64) 3 w1 base (fun _=>True) v1 (d++[y])→W.grownBy w1 v.ownBlock→Below base W w1→Kc (a.put o.dst v1) w1):if Region.wanted o (yielded ops a.tmps)=true then Oper.wp Tryz.prog o a W Kc Q else Kc (a.put o.dst undef) W:=by
  obtain ⟨i0,hi0,hz0,hsz0,hby0⟩:=info_parts info3
  obtain ⟨v',w',hrun,hown,hg,_⟩:=run_append_own (P:=Tryz.prog) (w:=W) base 36 o.type 3 i0 (.int .i64 0) 1 8 Tryz.underlying36 hi0 hz0 hsz0 hby0 rfl (by omega) v d.length (encs (Value.int .i64) d) (Kd.own_of_R hR) ad 1 1 [.int .i64 y] rfl (fun j u hj=>by
    have hj0:j=0:=by
      rcases Nat.eq_zero_or_pos j with h_|h_
      · exact h_
      · rw [List.getElem?_eq_none (by simp;omega)] at hj;cases hj
    subst hj0;have:u=.int .i64 y:=by simpa using hj.symm
    rw [this]
    exact hcell) (fun u hu=>by
    have:u=.int .i64 y:=by simpa using hu
    rw [this]
    rfl) (by show d.length+1≤9223372036854775807;omega) (by omega) hbase
  rw [if_pos hw];unfold Oper.wp execOp;simp only [ho,resolve,invoke,builtin,Sem.run_bind,Sem.run_pure,Result.andThen_ok,List.map_toArray,List.map_cons,List.map_nil,hs,hx,hrun];refine h v' w' (Kd.R_of_own (by simpa [encs] using hown) (fun _ _=>trivial)) hg ((Below.refl _ _).grown hg hbase (fun k hk=>Kd.R_base hR k hk))
end
set_option maxHeartbeats 16000000 in
set_option maxRecDepth 100000 in
theorem add_calls {σ:Type} (g:Nat) (lb:Array Value) (eg:∀ args w,(callFunc g args).run Tryz.prog w=.ok (.enter g args) w) (F:List Int→σ→Option (Bool × σ)) (I:σ→(Nat→Prop)→World→Prop)
    (hI:∀ s O W W',I s O W→Below W.heap.size W W'→I s O W') (hO:∀ s O W,I s O W→∀ i,O i→i < W.heap.size) (ht:Steps Tryz.prog g lb F I) (q n many:Nat) (hn:n≤1000) (hm:many≤800):
    ∀ (m:Nat) (d:List Int) (fr:Nat) (s s':σ) (b:Bool) (W:World) (base:Nat) (Ad:Option Addr) (cd:Nat) (O:Nat→Prop),ChI q g lb (n:Int) (many:Int) W→Kd.R (Kd.int .i64) 3 W base (fun k=>¬ O k) (.slice Ad d.length cd) d→base≤W.heap.size→I s O W→(∀ i,O i→i < q∨q+4≤i)→q+4≤W.heap.size→cwF F n many m d fr s=some (b,s')→d.length+m≤900→fr≤1001→
    Calls Tryz.prog 142 #[.slice Ad d.length cd,.int .i64 (fr:Int),.pointer (some ⟨q+1,0,none⟩),.pointer (some ⟨q+2,0,none⟩),.pointer (some ⟨q,0,none⟩),.pointer (some ⟨q+3,0,none⟩)] W fun e w'=>e=.returned (.bool b)∧∃ O',I s' O' w'∧Fr O W w'∧Nw O O' W:=by
  have eg66:∀ args w,(callFunc 142 args).run Tryz.prog w=.ok (.enter 142 args) w:=enters_of Tryz.func142 (by kernel_rfl) rfl;have HT:=qA ht;have HN:=qA hn;clear ht hn;intro m
  induction m with
  |zero=>
    intro d fr s s' b W base Ad cd O _ _ _ _ _ _ h;cases h
  |succ m IH=>
    intro d fr s s' b W base Ad cd O hci hR hb1 hIs hq hqw h hdm hfr;have HCI:=qA hci;have HR:=qA hR;have HB1:=qA hb1;have HIS:=qA hIs;have HQ:=qA hq;have HQW:=qA hqw;have HBD:=qA hdm;have HFR:=qA hfr;have q1:=ch_cell hci.cm;have q2:=ch_cell hci.cw;have HC0:=qA (Kd.R_reads' hR).2.2;have HL0:=qA (Kd.R_reads' hR).2.1;simp only [cwF] at h;by_cases hd:d.length=many
    · rw [if_pos hd] at h;have H:=qA h;have heq:((d.length:Int)==(many:Int))=true:=by rw [hd];simp
      clear hci hR hb1 hIs hq hqw h hdm hfr hd;go_enter Tryz.func142,Tryz.ntmps142
      go_wp2_with (go_at_fn g;(refine (HT.out.at_ _ Ad cd d s s' b O HC0.out HL0.out (by have:=HBD.out;omega) H.out HIS.out).mono ?_);rintro e w2 ⟨rfl,O2,hi2,hf2,hn2⟩;have HI2:=qA hi2;have HF2:=qA hf2;have HN2:=qA hn2;clear hi2 hf2 hn2)
      go_ret;exact ⟨rfl,O2,HI2.out,HF2.out,HN2.out⟩
    · rw [if_neg hd] at h;have heq:((d.length:Int)==(many:Int))=false:=beq_eq_false_iff_ne.2 (by omega);have H:=qA h;clear hci hR hb1 hIs hq hqw h hdm hfr hd;go_enter Tryz.func142,Tryz.ntmps142
      go_wp2
      go_loopg [9] (n - fr) (fun kq v9 wr=>∃ (x:Nat) (sx:σ) (Ox:Nat→Prop),v9=.int .i64 (x:Int)∧Aside0 (n - x=kq∧x≤1001)∧Aside0 (cwL (fun x s=>cwF F n many m (d++[(x:Int)]) (x+1) s) kq x sx=some (b,s'))∧Aside0 (ChI q g lb (n:Int) (many:Int) wr)∧Aside0 (Kd.R (Kd.int .i64) 3 wr base (fun k=>¬ Ox k) (.slice Ad d.length cd) d)∧Aside0 (I sx Ox wr)∧Aside0 (∀ i,Ox i→i < q∨q+4≤i)∧Aside0 (Fr O W wr)∧Aside0 (Nw O Ox W))
      case atStart=>exact ⟨fr,s,O,rfl,⟨rfl,HFR.out⟩,H,HCI,HR,HIS,HQ,⟨Fr.refl _ _⟩,⟨Nw.refl _ _⟩⟩
      case round=>
        clear q1 q2 H heq HCI HR HIS HQ HC0 HL0;obtain ⟨x,sx,Ox,rfl,HK,HL,HCI,HRD,HIX,HOX,HFX,HNX⟩:=hrel;have q3:=ch_cell HCI.out.cn;by_cases hx:x < n
        · obtain ⟨k1,hk1⟩:∃ k1,gk=k1+1:=⟨gk - 1,by have:=HK.out;omega⟩
          subst hk1;have d1:decide (x < n)=true:=decide_eq_true hx;have hl:=HL.out;simp only [cwL] at hl;obtain ⟨⟨r1,s1⟩,hr1,hl⟩:=Option.bind_eq_some_iff.1 hl;have HDC:=qA (Kd.R_reads' HRD.out).2.2;have HLD:=qA (Kd.R_reads' HRD.out).2.1;have hCa:ChI q g lb (n:Int) (many:Int) wr.drew:=HCI.out.below (below_drew (Below.refl _ _));have E1:=qA (show wrap64 ((x:Int)+1)=((x+1:Nat):Int) by have:=HN.out;unfold wrap64;omega)
          obtain ⟨dx,hdx⟩:∃ dx,dx=d++[(x:Int)]:=⟨_,rfl⟩
          rw [← hdx] at hr1;have HDL:=qA (show dx.length=d.length+1 by rw [hdx];simp);have HDX:=qA hdx;have HG:=qA hr1;have HCL:=qA (show slices_Clone_int_int.f d=some d by unfold slices_Clone_int_int.f;rw [if_pos (by have:=HBD.out;omega)]);replace HQW:=qA (Nat.le_trans HQW.out HFX.out.size);clear hr1 hdx
          cases r1 with
          |true=>
            rw [if_pos rfl] at hl;have h':=Option.some.inj hl;simp only [Prod.mk.injEq] at h';obtain ⟨rfl,rfl⟩:=h';clear hl
            go_upto_region 6 with fail
            refine wp_region_held_drew (S:=ChI q g lb (n:Int) (many:Int)) (by kernel_rfl) hCa (fun hHeld=>?_);refine wpAnyH_take (i:=0) (oi:=?oimA0) (v:=(.func (.func 142) #[] #[.pointer (some ⟨q+1,0,none⟩),.pointer (some ⟨q+2,0,none⟩),.pointer (some ⟨q,0,none⟩),.pointer (some ⟨q+3,0,none⟩)])) ?himA0 (by kernel_rfl) (by kernel_rfl) (by kernel_rfl) ?hQmA0 ?hymA0 hHeld ?hmA0
            case himA0=>(simp only [List.getElem?_toArray,List.getElem?_cons_succ,List.getElem?_cons_zero];rfl)
            case hQmA0=>exact fun _ _ _ h=>h
            case hymA0=>exact Or.inl ⟨by rfl,by intro w_ hSw;have h_:=ch_cell (ChI.ca hSw);first|(go_simp;done)|(go_simp;with_reducible rfl)⟩
            try simp only [Act.put,List.setIfInBounds_toArray,List.set_cons_zero,List.set_cons_succ]
            refine wpAnyH_take (i:=1) (oi:=?oimA1) (v:=?vmA1) ?himA1 (by kernel_rfl) (by kernel_rfl) (by kernel_rfl) ?hQmA1 ?hymA1 hHeld ?hmA1
            case himA1=>(simp only [List.getElem?_toArray,List.getElem?_cons_succ,List.getElem?_cons_zero];rfl)
            case hQmA1=>exact fun _ _ _ h=>h
            case hymA1=>exact Or.inl ⟨by rfl,by intro w_ hSw;(try dsimp only at hSw);first|(go_simp;done)|(go_simp;with_reducible rfl)⟩
            try simp only [Act.put,List.setIfInBounds_toArray,List.set_cons_zero,List.set_cons_succ]
            refine wpAnyH_take (i:=3) (oi:=?oimA3) (v:=?vmA3) ?himA3 (by kernel_rfl) (by kernel_rfl) (by kernel_rfl) ?hQmA3 ?hymA3 hHeld ?hmA3
            case himA3=>(simp only [List.getElem?_toArray,List.getElem?_cons_succ,List.getElem?_cons_zero];rfl)
            case hQmA3=>exact fun _ _ _ h=>h
            case hymA3=>exact Or.inl ⟨by rfl,by intro w_ hSw;(try dsimp only at hSw);first|(go_simp;done)|(go_simp;with_reducible rfl)⟩
            try simp only [Act.put,List.setIfInBounds_toArray,List.set_cons_zero,List.set_cons_succ]
            refine wpAnyH_take (i:=6) (oi:=?oimA6) (v:=?vmA6) ?himA6 (by kernel_rfl) (by kernel_rfl) (by kernel_rfl) ?hQmA6 ?hymA6 hHeld ?hmA6
            case himA6=>(simp only [List.getElem?_toArray,List.getElem?_cons_succ,List.getElem?_cons_zero];rfl)
            case hQmA6=>exact fun _ _ _ h=>h
            case hymA6=>exact Or.inl ⟨by rfl,by intro w_ hSw;(try dsimp only at hSw);first|(go_simp;done)|(go_simp;with_reducible rfl)⟩
            try simp only [Act.put,List.setIfInBounds_toArray,List.set_cons_zero,List.set_cons_succ]
            refine wpAnyH_take (i:=7) (oi:=?oimA7) (v:=?vmA7) ?himA7 (by kernel_rfl) (by kernel_rfl) (by kernel_rfl) ?hQmA7 ?hymA7 hHeld ?hmA7
            case himA7=>(simp only [List.getElem?_toArray,List.getElem?_cons_succ,List.getElem?_cons_zero];rfl)
            case hQmA7=>exact fun _ _ _ h=>h
            case hymA7=>exact Or.inl ⟨by rfl,by intro w_ hSw;(try dsimp only at hSw);first|(go_simp;done)|(go_simp;with_reducible rfl)⟩
            try simp only [Act.put,List.setIfInBounds_toArray,List.set_cons_zero,List.set_cons_succ]
            have hRd5:=Kd.R_drew HRD.out;refine wpAnyH_ready (rs:=[2,4]) (by kernel_rfl) (by simp) ?_;refine AllReadyH.cons (o:=?ocmAX2) ?hcmAX2 (fun K hK=>?hkmAX2) ?hmmAX
            case hcmAX2=>(simp only [List.getElem?_toArray,List.getElem?_cons_succ,List.getElem?_cons_zero];rfl)
            case hkmAX2=>
              go_simp
              go_at_call 143
              refine (slices_Clone_int_int.calls Ad cd d d _ (Kd.R_reads' hRd5).2.2 HLD.out HCL.out).mono ?_;rintro e w6 ⟨v6,rfl,ho6,hb6⟩;have hb6':Below wr.heap.size wr w6:=below_step (below_drew (Below.refl _ _)) hb6;have hIc:=hCa.below hb6
              try dsimp only
              refine hK.out _ _ hIc (fun hHeld=>?_);clear hK K
              try simp only [Act.put,List.setIfInBounds_toArray,List.set_cons_zero,List.set_cons_succ]
              refine wpAnyH_ready (rs:=[4]) (by kernel_rfl) (by simp) ?_;refine AllReadyH.cons (o:=?ocmAX4) ?hcmAX4 (fun K hK=>?hkmAX4) AllReadyH.nil
              case hcmAX4=>(simp only [List.getElem?_toArray,List.getElem?_cons_succ,List.getElem?_cons_zero];rfl)
              go_simp;have hbl:Below w6.heap.size w6 (w6.alloc (.cells #[.int .i64 (x:Int)] 3)):=below_alloc (Below.refl _ _) _;have hId:=hIc.below hbl;have hB7:Below wr.heap.size wr (w6.alloc (.cells #[.int .i64 (x:Int)] 3)):=below_step hb6' hbl;refine hK.out _ _ hId (fun hHeld=>?_);clear hK K
              try simp only [Act.put,List.setIfInBounds_toArray,List.set_cons_zero,List.set_cons_succ]
              have hcell:(w6.alloc (.cells #[.int .i64 (x:Int)] 3)).cell? ((⟨w6.heap.size,0,none⟩:Addr).add 0)=some (.int .i64 (x:Int)):=by rw [show ((⟨w6.heap.size,0,none⟩:Addr).add 0)=⟨w6.heap.size,0,none⟩ from rfl];exact ch_cell (blk_new w6 _)
              have hR6:=Kd.R_below ho6 hbl
              have hbs:wr.heap.size≤wr.drew.heap.size:=by
                have h3_:wr.drew.heap.size=wr.heap.size:=rfl
                (try rw [World.size_alloc]);omega
              refine wpAnyH_ready (rs:=[5]) (by kernel_rfl) (by simp) ?_;refine AllReadyH.cons (o:=?ocmAX5) ?hcmAX5 (fun K hK=>?hkmAX5) AllReadyH.nil
              case hcmAX5=>(simp only [List.getElem?_toArray,List.getElem?_cons_succ,List.getElem?_cons_zero];rfl)
              refine app1_step (by rfl) (.tmp 25) (.tmp 27) (by rfl) (wr.drew.heap.size) v6 d (x:Int) ⟨w6.heap.size,0,none⟩ rfl rfl hR6 hcell (by have:=HBD.out;omega) (by first|exact hb6.size|(rw [World.size_alloc];have:=hb6.size;omega)) ?_;intro v7 w7 ho7 hg7 hb7;rw [← HDX.out] at ho7;obtain ⟨A7,c7,e7⟩:=Kd.R_slice ho7;subst e7
              have hB8:Below wr.heap.size wr w7:=⟨hb7.os.trans hB7.os,hb7.tape.trans hB7.tape,hb7.output.trans hB7.output,Nat.le_trans hB7.size hb7.size,fun k hk=>(hb7.block k (by omega)).trans (hB7.block k hk)⟩
              have hIf:=HCI.out.below hB8;have hS8:=hI _ _ _ _ HIX.out hB8;refine hK.out _ _ hIf (fun hHeld=>?_);clear hK K
              try simp only [Act.put,List.setIfInBounds_toArray,List.set_cons_zero,List.set_cons_succ]
              refine wpAnyH_ready (rs:=[8]) (by kernel_rfl) (by simp) ?_;refine AllReadyH.cons (o:=?ocmAX8) ?hcmAX8 (fun K hK=>?hkmAX8) AllReadyH.nil
              case hcmAX8=>(simp only [List.getElem?_toArray,List.getElem?_cons_succ,List.getElem?_cons_zero];rfl)
              go_simp;simp only [i64_w,E1.out]
              go_at_fn 142
              refine (IH dx (x+1) sx s1 true w7 (wr.drew.heap.size) A7 c7 Ox hIf (row_new ho7 (fun i hi=>Nat.lt_of_lt_of_le (hO _ _ _ HIX.out i hi) hbs)) (by first|exact Nat.le_trans hb6.size hb7.size|(have h1_:=hb6.size;have h2_:=hb7.size;rw [World.size_alloc] at h2_;omega)|(have h1_:=hb6.size;have h2_:=hb7.size;rw [World.size_alloc] at h1_ ⊢;omega)) hS8 HOX.out (by have h1_:=HQW.out;have h2_:=hB8.size;omega) HG.out (by have:=HBD.out;have:=HDL.out;omega) (by have:=HN.out;omega)).mono ?_;rintro e w8 ⟨rfl,O8,hi8,hf8,hn8⟩;have hIg:=hIf.fr hf8 HOX.out;have hf9:Fr Ox wr w8:=(Fr.of_below hB8).trans (Nw.refl _ _) hf8;have hn9:Nw Ox O8 wr:=Nw.trans (Nw.refl _ _) hB8.size hn8
              try dsimp only
              refine hK.out _ _ hIg (fun hHeld=>?_);clear hK K
              try simp only [Act.put,List.setIfInBounds_toArray,List.set_cons_zero,List.set_cons_succ]
              refine wpAnyH_done (by kernel_rfl) ?_ _
              go_wp2
              go_ret;exact ⟨rfl,O8,hi8,HFX.out.trans HNX.out hf9,HNX.out.trans HFX.out.size hn9⟩
            case hmmAX=>
              refine AllReadyH.cons (o:=?ocmAY4) ?hcmAY4 (fun K hK=>?hkmAY4) AllReadyH.nil
              case hcmAY4=>(simp only [List.getElem?_toArray,List.getElem?_cons_succ,List.getElem?_cons_zero];rfl)
              go_simp;have hbl:Below wr.drew.heap.size wr.drew (wr.drew.alloc (.cells #[.int .i64 (x:Int)] 3)):=below_alloc (Below.refl _ _) _;have hIc:=hCa.below hbl;refine hK.out _ _ hIc (fun hHeld=>?_);clear hK K
              try simp only [Act.put,List.setIfInBounds_toArray,List.set_cons_zero,List.set_cons_succ]
              refine wpAnyH_ready (rs:=[2]) (by kernel_rfl) (by simp) ?_;refine AllReadyH.cons (o:=?ocmAY2) ?hcmAY2 (fun K hK=>?hkmAY2) AllReadyH.nil
              case hcmAY2=>(simp only [List.getElem?_toArray,List.getElem?_cons_succ,List.getElem?_cons_zero];rfl)
              go_simp
              go_at_call 143
              refine (slices_Clone_int_int.calls Ad cd d d _ (Kd.R_reads' (Kd.R_below hRd5 hbl)).2.2 HLD.out HCL.out).mono ?_;rintro e w6 ⟨v6,rfl,ho6,hb6⟩;have hId:=hIc.below hb6;have hB7:Below wr.heap.size wr w6:=below_step (below_step (below_drew (Below.refl _ _)) hbl) hb6
              try dsimp only
              refine hK.out _ _ hId (fun hHeld=>?_);clear hK K
              try simp only [Act.put,List.setIfInBounds_toArray,List.set_cons_zero,List.set_cons_succ]
              have hcell:w6.cell? ((⟨wr.drew.heap.size,0,none⟩:Addr).add 0)=some (.int .i64 (x:Int)):=by rw [show ((⟨wr.drew.heap.size,0,none⟩:Addr).add 0)=⟨wr.drew.heap.size,0,none⟩ from rfl];exact ch_cell ((hb6.block _ (by rw [World.size_alloc];omega)).trans (blk_new wr.drew _))
              have hR6:=ho6
              have hbs:wr.heap.size≤(wr.drew.alloc (.cells #[.int .i64 (x:Int)] 3)).heap.size:=by
                have h3_:wr.drew.heap.size=wr.heap.size:=rfl
                (try rw [World.size_alloc]);omega
              refine wpAnyH_ready (rs:=[5]) (by kernel_rfl) (by simp) ?_;refine AllReadyH.cons (o:=?ocmAY5) ?hcmAY5 (fun K hK=>?hkmAY5) AllReadyH.nil
              case hcmAY5=>(simp only [List.getElem?_toArray,List.getElem?_cons_succ,List.getElem?_cons_zero];rfl)
              refine app1_step (by rfl) (.tmp 25) (.tmp 27) (by rfl) ((wr.drew.alloc (.cells #[.int .i64 (x:Int)] 3)).heap.size) v6 d (x:Int) ⟨wr.drew.heap.size,0,none⟩ rfl rfl hR6 hcell (by have:=HBD.out;omega) (by first|exact hb6.size|(rw [World.size_alloc];have:=hb6.size;omega)) ?_;intro v7 w7 ho7 hg7 hb7;rw [← HDX.out] at ho7;obtain ⟨A7,c7,e7⟩:=Kd.R_slice ho7;subst e7
              have hB8:Below wr.heap.size wr w7:=⟨hb7.os.trans hB7.os,hb7.tape.trans hB7.tape,hb7.output.trans hB7.output,Nat.le_trans hB7.size hb7.size,fun k hk=>(hb7.block k (by omega)).trans (hB7.block k hk)⟩
              have hIf:=HCI.out.below hB8;have hS8:=hI _ _ _ _ HIX.out hB8;refine hK.out _ _ hIf (fun hHeld=>?_);clear hK K
              try simp only [Act.put,List.setIfInBounds_toArray,List.set_cons_zero,List.set_cons_succ]
              refine wpAnyH_ready (rs:=[8]) (by kernel_rfl) (by simp) ?_;refine AllReadyH.cons (o:=?ocmAY8) ?hcmAY8 (fun K hK=>?hkmAY8) AllReadyH.nil
              case hcmAY8=>(simp only [List.getElem?_toArray,List.getElem?_cons_succ,List.getElem?_cons_zero];rfl)
              go_simp;simp only [i64_w,E1.out]
              go_at_fn 142
              refine (IH dx (x+1) sx s1 true w7 ((wr.drew.alloc (.cells #[.int .i64 (x:Int)] 3)).heap.size) A7 c7 Ox hIf (row_new ho7 (fun i hi=>Nat.lt_of_lt_of_le (hO _ _ _ HIX.out i hi) hbs)) (by first|exact Nat.le_trans hb6.size hb7.size|(have h1_:=hb6.size;have h2_:=hb7.size;rw [World.size_alloc] at h2_;omega)|(have h1_:=hb6.size;have h2_:=hb7.size;rw [World.size_alloc] at h1_ ⊢;omega)) hS8 HOX.out (by have h1_:=HQW.out;have h2_:=hB8.size;omega) HG.out (by have:=HBD.out;have:=HDL.out;omega) (by have:=HN.out;omega)).mono ?_;rintro e w8 ⟨rfl,O8,hi8,hf8,hn8⟩;have hIg:=hIf.fr hf8 HOX.out;have hf9:Fr Ox wr w8:=(Fr.of_below hB8).trans (Nw.refl _ _) hf8;have hn9:Nw Ox O8 wr:=Nw.trans (Nw.refl _ _) hB8.size hn8
              try dsimp only
              refine hK.out _ _ hIg (fun hHeld=>?_);clear hK K
              try simp only [Act.put,List.setIfInBounds_toArray,List.set_cons_zero,List.set_cons_succ]
              refine wpAnyH_done (by kernel_rfl) ?_ _
              go_wp2
              go_ret;exact ⟨rfl,O8,hi8,HFX.out.trans HNX.out hf9,HNX.out.trans HFX.out.size hn9⟩
          |false=>
            have HL2:=qA (show cwL (fun x s=>cwF F n many m (d++[(x:Int)]) (x+1) s) k1 (x+1) s1=some (b,s') by simpa using hl);clear hl
            go_upto_region 6 with fail
            refine wp_region_held_drew (S:=ChI q g lb (n:Int) (many:Int)) (by kernel_rfl) hCa (fun hHeld=>?_);refine wpAnyH_take (i:=0) (oi:=?oimB0) (v:=(.func (.func 142) #[] #[.pointer (some ⟨q+1,0,none⟩),.pointer (some ⟨q+2,0,none⟩),.pointer (some ⟨q,0,none⟩),.pointer (some ⟨q+3,0,none⟩)])) ?himB0 (by kernel_rfl) (by kernel_rfl) (by kernel_rfl) ?hQmB0 ?hymB0 hHeld ?hmB0
            case himB0=>(simp only [List.getElem?_toArray,List.getElem?_cons_succ,List.getElem?_cons_zero];rfl)
            case hQmB0=>exact fun _ _ _ h=>h
            case hymB0=>exact Or.inl ⟨by rfl,by intro w_ hSw;have h_:=ch_cell (ChI.ca hSw);first|(go_simp;done)|(go_simp;with_reducible rfl)⟩
            try simp only [Act.put,List.setIfInBounds_toArray,List.set_cons_zero,List.set_cons_succ]
            refine wpAnyH_take (i:=1) (oi:=?oimB1) (v:=?vmB1) ?himB1 (by kernel_rfl) (by kernel_rfl) (by kernel_rfl) ?hQmB1 ?hymB1 hHeld ?hmB1
            case himB1=>(simp only [List.getElem?_toArray,List.getElem?_cons_succ,List.getElem?_cons_zero];rfl)
            case hQmB1=>exact fun _ _ _ h=>h
            case hymB1=>exact Or.inl ⟨by rfl,by intro w_ hSw;(try dsimp only at hSw);first|(go_simp;done)|(go_simp;with_reducible rfl)⟩
            try simp only [Act.put,List.setIfInBounds_toArray,List.set_cons_zero,List.set_cons_succ]
            refine wpAnyH_take (i:=3) (oi:=?oimB3) (v:=?vmB3) ?himB3 (by kernel_rfl) (by kernel_rfl) (by kernel_rfl) ?hQmB3 ?hymB3 hHeld ?hmB3
            case himB3=>(simp only [List.getElem?_toArray,List.getElem?_cons_succ,List.getElem?_cons_zero];rfl)
            case hQmB3=>exact fun _ _ _ h=>h
            case hymB3=>exact Or.inl ⟨by rfl,by intro w_ hSw;(try dsimp only at hSw);first|(go_simp;done)|(go_simp;with_reducible rfl)⟩
            try simp only [Act.put,List.setIfInBounds_toArray,List.set_cons_zero,List.set_cons_succ]
            refine wpAnyH_take (i:=6) (oi:=?oimB6) (v:=?vmB6) ?himB6 (by kernel_rfl) (by kernel_rfl) (by kernel_rfl) ?hQmB6 ?hymB6 hHeld ?hmB6
            case himB6=>(simp only [List.getElem?_toArray,List.getElem?_cons_succ,List.getElem?_cons_zero];rfl)
            case hQmB6=>exact fun _ _ _ h=>h
            case hymB6=>exact Or.inl ⟨by rfl,by intro w_ hSw;(try dsimp only at hSw);first|(go_simp;done)|(go_simp;with_reducible rfl)⟩
            try simp only [Act.put,List.setIfInBounds_toArray,List.set_cons_zero,List.set_cons_succ]
            refine wpAnyH_take (i:=7) (oi:=?oimB7) (v:=?vmB7) ?himB7 (by kernel_rfl) (by kernel_rfl) (by kernel_rfl) ?hQmB7 ?hymB7 hHeld ?hmB7
            case himB7=>(simp only [List.getElem?_toArray,List.getElem?_cons_succ,List.getElem?_cons_zero];rfl)
            case hQmB7=>exact fun _ _ _ h=>h
            case hymB7=>exact Or.inl ⟨by rfl,by intro w_ hSw;(try dsimp only at hSw);first|(go_simp;done)|(go_simp;with_reducible rfl)⟩
            try simp only [Act.put,List.setIfInBounds_toArray,List.set_cons_zero,List.set_cons_succ]
            have hRd5:=Kd.R_drew HRD.out;refine wpAnyH_ready (rs:=[2,4]) (by kernel_rfl) (by simp) ?_;refine AllReadyH.cons (o:=?ocmBX2) ?hcmBX2 (fun K hK=>?hkmBX2) ?hmmBX
            case hcmBX2=>(simp only [List.getElem?_toArray,List.getElem?_cons_succ,List.getElem?_cons_zero];rfl)
            case hkmBX2=>
              go_simp
              go_at_call 143
              refine (slices_Clone_int_int.calls Ad cd d d _ (Kd.R_reads' hRd5).2.2 HLD.out HCL.out).mono ?_;rintro e w6 ⟨v6,rfl,ho6,hb6⟩;have hb6':Below wr.heap.size wr w6:=below_step (below_drew (Below.refl _ _)) hb6;have hIc:=hCa.below hb6
              try dsimp only
              refine hK.out _ _ hIc (fun hHeld=>?_);clear hK K
              try simp only [Act.put,List.setIfInBounds_toArray,List.set_cons_zero,List.set_cons_succ]
              refine wpAnyH_ready (rs:=[4]) (by kernel_rfl) (by simp) ?_;refine AllReadyH.cons (o:=?ocmBX4) ?hcmBX4 (fun K hK=>?hkmBX4) AllReadyH.nil
              case hcmBX4=>(simp only [List.getElem?_toArray,List.getElem?_cons_succ,List.getElem?_cons_zero];rfl)
              go_simp;have hbl:Below w6.heap.size w6 (w6.alloc (.cells #[.int .i64 (x:Int)] 3)):=below_alloc (Below.refl _ _) _;have hId:=hIc.below hbl;have hB7:Below wr.heap.size wr (w6.alloc (.cells #[.int .i64 (x:Int)] 3)):=below_step hb6' hbl;refine hK.out _ _ hId (fun hHeld=>?_);clear hK K
              try simp only [Act.put,List.setIfInBounds_toArray,List.set_cons_zero,List.set_cons_succ]
              have hcell:(w6.alloc (.cells #[.int .i64 (x:Int)] 3)).cell? ((⟨w6.heap.size,0,none⟩:Addr).add 0)=some (.int .i64 (x:Int)):=by rw [show ((⟨w6.heap.size,0,none⟩:Addr).add 0)=⟨w6.heap.size,0,none⟩ from rfl];exact ch_cell (blk_new w6 _)
              have hR6:=Kd.R_below ho6 hbl
              have hbs:wr.heap.size≤wr.drew.heap.size:=by
                have h3_:wr.drew.heap.size=wr.heap.size:=rfl
                (try rw [World.size_alloc]);omega
              refine wpAnyH_ready (rs:=[5]) (by kernel_rfl) (by simp) ?_;refine AllReadyH.cons (o:=?ocmBX5) ?hcmBX5 (fun K hK=>?hkmBX5) AllReadyH.nil
              case hcmBX5=>(simp only [List.getElem?_toArray,List.getElem?_cons_succ,List.getElem?_cons_zero];rfl)
              refine app1_step (by rfl) (.tmp 25) (.tmp 27) (by rfl) (wr.drew.heap.size) v6 d (x:Int) ⟨w6.heap.size,0,none⟩ rfl rfl hR6 hcell (by have:=HBD.out;omega) (by first|exact hb6.size|(rw [World.size_alloc];have:=hb6.size;omega)) ?_;intro v7 w7 ho7 hg7 hb7;rw [← HDX.out] at ho7;obtain ⟨A7,c7,e7⟩:=Kd.R_slice ho7;subst e7
              have hB8:Below wr.heap.size wr w7:=⟨hb7.os.trans hB7.os,hb7.tape.trans hB7.tape,hb7.output.trans hB7.output,Nat.le_trans hB7.size hb7.size,fun k hk=>(hb7.block k (by omega)).trans (hB7.block k hk)⟩
              have hIf:=HCI.out.below hB8;have hS8:=hI _ _ _ _ HIX.out hB8;refine hK.out _ _ hIf (fun hHeld=>?_);clear hK K
              try simp only [Act.put,List.setIfInBounds_toArray,List.set_cons_zero,List.set_cons_succ]
              refine wpAnyH_ready (rs:=[8]) (by kernel_rfl) (by simp) ?_;refine AllReadyH.cons (o:=?ocmBX8) ?hcmBX8 (fun K hK=>?hkmBX8) AllReadyH.nil
              case hcmBX8=>(simp only [List.getElem?_toArray,List.getElem?_cons_succ,List.getElem?_cons_zero];rfl)
              go_simp;simp only [i64_w,E1.out]
              go_at_fn 142
              refine (IH dx (x+1) sx s1 false w7 (wr.drew.heap.size) A7 c7 Ox hIf (row_new ho7 (fun i hi=>Nat.lt_of_lt_of_le (hO _ _ _ HIX.out i hi) hbs)) (by first|exact Nat.le_trans hb6.size hb7.size|(have h1_:=hb6.size;have h2_:=hb7.size;rw [World.size_alloc] at h2_;omega)|(have h1_:=hb6.size;have h2_:=hb7.size;rw [World.size_alloc] at h1_ ⊢;omega)) hS8 HOX.out (by have h1_:=HQW.out;have h2_:=hB8.size;omega) HG.out (by have:=HBD.out;have:=HDL.out;omega) (by have:=HN.out;omega)).mono ?_;rintro e w8 ⟨rfl,O8,hi8,hf8,hn8⟩;have hIg:=hIf.fr hf8 HOX.out;have hf9:Fr Ox wr w8:=(Fr.of_below hB8).trans (Nw.refl _ _) hf8;have hn9:Nw Ox O8 wr:=Nw.trans (Nw.refl _ _) hB8.size hn8
              try dsimp only
              refine hK.out _ _ hIg (fun hHeld=>?_);clear hK K
              try simp only [Act.put,List.setIfInBounds_toArray,List.set_cons_zero,List.set_cons_succ]
              refine wpAnyH_done (by kernel_rfl) ?_ _
              go_wp2
              go_roundg k1
              case measure=>omega
              case rel=>exact ⟨x+1,s1,O8,by first|rfl|rw [E1.out],⟨by have:=HK.out;omega,by have:=HN.out;omega⟩,HL2,⟨hIg⟩,⟨row_fr HRD.out hf9 hn9⟩,⟨hi8⟩,⟨fun i h_=>(hn9 i h_).elim (HOX.out i) (fun h2_=>.inr (by have:=HQW.out;omega))⟩,⟨HFX.out.trans HNX.out hf9⟩,⟨HNX.out.trans HFX.out.size hn9⟩⟩
            case hmmBX=>
              refine AllReadyH.cons (o:=?ocmBY4) ?hcmBY4 (fun K hK=>?hkmBY4) AllReadyH.nil
              case hcmBY4=>(simp only [List.getElem?_toArray,List.getElem?_cons_succ,List.getElem?_cons_zero];rfl)
              go_simp;have hbl:Below wr.drew.heap.size wr.drew (wr.drew.alloc (.cells #[.int .i64 (x:Int)] 3)):=below_alloc (Below.refl _ _) _;have hIc:=hCa.below hbl;refine hK.out _ _ hIc (fun hHeld=>?_);clear hK K
              try simp only [Act.put,List.setIfInBounds_toArray,List.set_cons_zero,List.set_cons_succ]
              refine wpAnyH_ready (rs:=[2]) (by kernel_rfl) (by simp) ?_;refine AllReadyH.cons (o:=?ocmBY2) ?hcmBY2 (fun K hK=>?hkmBY2) AllReadyH.nil
              case hcmBY2=>(simp only [List.getElem?_toArray,List.getElem?_cons_succ,List.getElem?_cons_zero];rfl)
              go_simp
              go_at_call 143
              refine (slices_Clone_int_int.calls Ad cd d d _ (Kd.R_reads' (Kd.R_below hRd5 hbl)).2.2 HLD.out HCL.out).mono ?_;rintro e w6 ⟨v6,rfl,ho6,hb6⟩;have hId:=hIc.below hb6;have hB7:Below wr.heap.size wr w6:=below_step (below_step (below_drew (Below.refl _ _)) hbl) hb6
              try dsimp only
              refine hK.out _ _ hId (fun hHeld=>?_);clear hK K
              try simp only [Act.put,List.setIfInBounds_toArray,List.set_cons_zero,List.set_cons_succ]
              have hcell:w6.cell? ((⟨wr.drew.heap.size,0,none⟩:Addr).add 0)=some (.int .i64 (x:Int)):=by rw [show ((⟨wr.drew.heap.size,0,none⟩:Addr).add 0)=⟨wr.drew.heap.size,0,none⟩ from rfl];exact ch_cell ((hb6.block _ (by rw [World.size_alloc];omega)).trans (blk_new wr.drew _))
              have hR6:=ho6
              have hbs:wr.heap.size≤(wr.drew.alloc (.cells #[.int .i64 (x:Int)] 3)).heap.size:=by
                have h3_:wr.drew.heap.size=wr.heap.size:=rfl
                (try rw [World.size_alloc]);omega
              refine wpAnyH_ready (rs:=[5]) (by kernel_rfl) (by simp) ?_;refine AllReadyH.cons (o:=?ocmBY5) ?hcmBY5 (fun K hK=>?hkmBY5) AllReadyH.nil
              case hcmBY5=>(simp only [List.getElem?_toArray,List.getElem?_cons_succ,List.getElem?_cons_zero];rfl)
              refine app1_step (by rfl) (.tmp 25) (.tmp 27) (by rfl) ((wr.drew.alloc (.cells #[.int .i64 (x:Int)] 3)).heap.size) v6 d (x:Int) ⟨wr.drew.heap.size,0,none⟩ rfl rfl hR6 hcell (by have:=HBD.out;omega) (by first|exact hb6.size|(rw [World.size_alloc];have:=hb6.size;omega)) ?_;intro v7 w7 ho7 hg7 hb7;rw [← HDX.out] at ho7;obtain ⟨A7,c7,e7⟩:=Kd.R_slice ho7;subst e7
              have hB8:Below wr.heap.size wr w7:=⟨hb7.os.trans hB7.os,hb7.tape.trans hB7.tape,hb7.output.trans hB7.output,Nat.le_trans hB7.size hb7.size,fun k hk=>(hb7.block k (by omega)).trans (hB7.block k hk)⟩
              have hIf:=HCI.out.below hB8;have hS8:=hI _ _ _ _ HIX.out hB8;refine hK.out _ _ hIf (fun hHeld=>?_);clear hK K
              try simp only [Act.put,List.setIfInBounds_toArray,List.set_cons_zero,List.set_cons_succ]
              refine wpAnyH_ready (rs:=[8]) (by kernel_rfl) (by simp) ?_;refine AllReadyH.cons (o:=?ocmBY8) ?hcmBY8 (fun K hK=>?hkmBY8) AllReadyH.nil
              case hcmBY8=>(simp only [List.getElem?_toArray,List.getElem?_cons_succ,List.getElem?_cons_zero];rfl)
              go_simp;simp only [i64_w,E1.out]
              go_at_fn 142
              refine (IH dx (x+1) sx s1 false w7 ((wr.drew.alloc (.cells #[.int .i64 (x:Int)] 3)).heap.size) A7 c7 Ox hIf (row_new ho7 (fun i hi=>Nat.lt_of_lt_of_le (hO _ _ _ HIX.out i hi) hbs)) (by first|exact Nat.le_trans hb6.size hb7.size|(have h1_:=hb6.size;have h2_:=hb7.size;rw [World.size_alloc] at h2_;omega)|(have h1_:=hb6.size;have h2_:=hb7.size;rw [World.size_alloc] at h1_ ⊢;omega)) hS8 HOX.out (by have h1_:=HQW.out;have h2_:=hB8.size;omega) HG.out (by have:=HBD.out;have:=HDL.out;omega) (by have:=HN.out;omega)).mono ?_;rintro e w8 ⟨rfl,O8,hi8,hf8,hn8⟩;have hIg:=hIf.fr hf8 HOX.out;have hf9:Fr Ox wr w8:=(Fr.of_below hB8).trans (Nw.refl _ _) hf8;have hn9:Nw Ox O8 wr:=Nw.trans (Nw.refl _ _) hB8.size hn8
              try dsimp only
              refine hK.out _ _ hIg (fun hHeld=>?_);clear hK K
              try simp only [Act.put,List.setIfInBounds_toArray,List.set_cons_zero,List.set_cons_succ]
              refine wpAnyH_done (by kernel_rfl) ?_ _
              go_wp2
              go_roundg k1
              case measure=>omega
              case rel=>exact ⟨x+1,s1,O8,by first|rfl|rw [E1.out],⟨by have:=HK.out;omega,by have:=HN.out;omega⟩,HL2,⟨hIg⟩,⟨row_fr HRD.out hf9 hn9⟩,⟨hi8⟩,⟨fun i h_=>(hn9 i h_).elim (HOX.out i) (fun h2_=>.inr (by have:=HQW.out;omega))⟩,⟨HFX.out.trans HNX.out hf9⟩,⟨HNX.out.trans HFX.out.size hn9⟩⟩
        · obtain rfl:gk=0:=by have:=HK.out;omega
          have d1:decide (x < n)=false:=decide_eq_false hx;have hl:=HL.out;simp only [cwL] at hl;have h':=Option.some.inj hl;simp only [Prod.mk.injEq] at h';obtain ⟨rfl,rfl⟩:=h';clear hl
          go_wp2
          go_ret;exact ⟨rfl,Ox,HIX.out,HFX.out,HNX.out⟩
set_option maxHeartbeats 16000000 in
set_option maxRecDepth 100000 in
theorem choose_calls {σ:Type} (g:Nat) (lb:Array Value) (eg:∀ args w,(callFunc g args).run Tryz.prog w=.ok (.enter g args) w) (F:List Int→σ→Option (Bool × σ)) (I:σ→(Nat→Prop)→World→Prop)
    (hI:∀ s O W W',I s O W→Below W.heap.size W W'→I s O W') (hO:∀ s O W,I s O W→∀ i,O i→i < W.heap.size) (ht:Steps Tryz.prog g lb F I) (n many:Nat) (hn:n≤800) (hm:many≤800) (s s':σ) (b:Bool) (W:World) (O:Nat→Prop) (hs:I s O W) (h:cwF F n many (many+1) [] 0 s=some (b,s')):
    Calls Tryz.prog 109 #[.int .i64 (n:Int),.int .i64 (many:Int),.func (.func g) #[] lb] W fun e w'=>e=.returned (.tuple #[])∧∃ O',I s' O' w'∧Fr O W w'∧Nw O O' W:=by
  have eg66:∀ args w,(callFunc 142 args).run Tryz.prog w=.ok (.enter 142 args) w:=enters_of Tryz.func142 (by kernel_rfl) rfl
  obtain ⟨W4,hW4⟩:∃ W4,W4=(((W.alloc (.cells #[.int .i64 (n:Int)] 3)).alloc (.cells #[.int .i64 (many:Int)] 3)).alloc (.cells #[.func (.func g) #[] lb] 53)).alloc (.cells #[.func (.func 142) #[] #[.pointer (some ⟨W.heap.size+1,0,none⟩),.pointer (some ⟨W.heap.size+2,0,none⟩),.pointer (some ⟨W.heap.size,0,none⟩),.pointer (some ⟨W.heap.size+3,0,none⟩)]] 99):=⟨_,rfl⟩
  have z1:=blk_new W (.cells #[.int .i64 (n:Int)] 3);have z2:=blk_new (W.alloc (.cells #[.int .i64 (n:Int)] 3)) (.cells #[.int .i64 (many:Int)] 3);have z3:=blk_new ((W.alloc (.cells #[.int .i64 (n:Int)] 3)).alloc (.cells #[.int .i64 (many:Int)] 3)) (.cells #[.func (.func g) #[] lb] 53);have z4:=blk_new (((W.alloc (.cells #[.int .i64 (n:Int)] 3)).alloc (.cells #[.int .i64 (many:Int)] 3)).alloc (.cells #[.func (.func g) #[] lb] 53)) (.cells #[.func (.func 142) #[] #[.pointer (some ⟨W.heap.size+1,0,none⟩),.pointer (some ⟨W.heap.size+2,0,none⟩),.pointer (some ⟨W.heap.size,0,none⟩),.pointer (some ⟨W.heap.size+3,0,none⟩)]] 99);rw [World.size_alloc,World.size_alloc,World.size_alloc] at z4;rw [World.size_alloc,World.size_alloc] at z3;rw [World.size_alloc] at z2
  have hC:ChI W.heap.size g lb (n:Int) (many:Int) W4:=by
    rw [hW4];exact ⟨blk_alloc (blk_alloc (blk_alloc z1 _) _) _,blk_alloc (blk_alloc z2 _) _,blk_alloc z3 _,z4⟩
  have hB4:Below W.heap.size W W4:=by rw [hW4];exact below_alloc (below_alloc (below_alloc (below_alloc (Below.refl _ _) _) _) _) _
  have hs4:W4.heap.size=W.heap.size+4:=by rw [hW4];simp only [World.size_alloc]
  have HC:=qA hC;have HS4:=qA hs4;have HB4:=qA hB4;have HI:=qA (hI _ _ _ _ hs hB4);have HOL:=qA (hO _ _ _ hs);have H:=qA h;clear h z1 z2 z3 z4 hC hs4 hB4 hs;go_enter Tryz.func109,Tryz.ntmps109
  go_upto_region 3 with fail
  simp only [Nat.add_assoc,Nat.reduceAdd];rw [← hW4];clear hW4;have q4:=ch_cell HC.out.ca
  go_wp2_with (first
    |((with_reducible refine gate_dst (N:=9) rfl ?_);refine Kd.R_lit (Kd.int .i64) (w0:=W4) W4.heap.size 3 ?hg (N:=9) ?hd (xs:=([]:List Int)) (inner:=[]) (ok:=fun _=>True) (okp:=fun _=>True) ?hr ?hp (fun _ hk=>hk) trivial (Below.refl _ _) (Nat.le_refl _) (by simp) ?_;(case hd=>rfl);(case hg=>rfl);(case hr=>first|(go_simp;done)|(go_simp;rfl));(case hp=>exact (Reps.none _ _));intro v9 w9 ho9 hb9 hg_ hnew_;clear hg_ hnew_;obtain ⟨A9,c9,e9⟩:=Kd.R_slice ho9;subst e9;have HO9:=qA ho9;have HB9:=qA hb9;clear ho9 hb9)
    |(go_at_fn 142;(refine (add_calls g lb eg F I hI hO ht W.heap.size n many (by omega) hm (many+1) [] 0 s s' b _ W4.heap.size A9 c9 O (HC.out.below HB9.out) (row_new HO9.out (fun i hi=>by have h1_:=HOL.out i hi;have h2_:=HS4.out;omega)) HB9.out.size (hI _ _ _ _ HI.out HB9.out) (fun i hi=>.inl (HOL.out i hi)) (by have h1_:=HS4.out;have h2_:=HB9.out.size;omega) H.out (by simp;omega) (by omega)).mono ?_);rintro e w10 ⟨rfl,O10,hi10,hf10,hn10⟩;have HI10:=qA hi10;have HF10:=qA hf10;have HN10:=qA hn10;clear hi10 hf10 hn10))
  refine bodyPost_end (results_none rfl _ _ _) rfl ?_;have hb:=below_step HB4.out HB9.out;exact ⟨rfl,O10,HI10.out,(Fr.of_below hb).trans (Nw.refl _ _) HF10.out,Nw.trans (Nw.refl _ _) hb.size HN10.out⟩
theorem below_step' {w0 W W2 W3:World} (h:Below w0.heap.size w0 W) (h2:Below W.heap.size W W2) (h3:Below w0.heap.size W2 W3):Below w0.heap.size w0 W3:=by
  have h4:=below_step h h2;exact ⟨h3.os.trans h4.os,h3.tape.trans h4.tape,h3.output.trans h4.output,Nat.le_trans h4.size h3.size,fun i hi=>(h3.block i hi).trans (h4.block i hi)⟩
theorem mn_cell_of_two {w:World} {b e:Nat} {v0 v1:Value} (h:w.heap[b]? =some (.cells #[v0,v1] e (0,0))):w.cell? ⟨b,0,none⟩=some v0∧w.cell? ⟨b,1,none⟩=some v1:=by
  constructor<;>simp [World.cell?,h]
theorem mn_free_of_two {w:World} {b e:Nat} {v0 v1:Value} (h:w.heap[b]? =some (.cells #[v0,v1] e (0,0))):w.frozen? ⟨b,0,none⟩=false∧w.frozen? ⟨b,1,none⟩=false:=by
  constructor<;>simp [World.frozen?,h]
/-- A function value that tells F of lists, in worlds with S; it may lay blocks. -/
def TellsI (P:Program) (g:Nat) (lb:Array Value) (F:List Int→Option Int) (S:World→Prop):Prop:=
  ∀ (W:World) (A:Option Addr) (c:Nat) (l:List Int) (r:Int),Kd.C (Kd.int .i64) W A l.length l→l.length≤c→F l=some r→S W→Calls P g (#[.slice A l.length c]++lb) W fun e w'=>e=.returned (.int .i64 r)∧Below W.heap.size W w'
theorem TellsI.at_ {P:Program} {g:Nat} {lb:Array Value} {F:List Int→Option Int} {S:World→Prop} (h:TellsI P g lb F S) (W:World) (A:Option Addr) (c:Nat) (l:List Int) (r:Int) (hC:Kd.C (Kd.int .i64) W A l.length l) (hc:l.length≤c) (hF:F l=some r) (hW:S W):Calls P g (#[.slice A l.length c]++lb) W fun e w'=>e=.returned (.int .i64 r)∧Below W.heap.size W w':=h W A c l r hC hc hF hW
def TellsB (P:Program) (g:Nat) (lb:Array Value) (F:List Int→Option Bool) (S:World→Prop):Prop:=
  ∀ (W:World) (A:Option Addr) (c:Nat) (l:List Int) (r:Bool),Kd.C (Kd.int .i64) W A l.length l→l.length≤c→F l=some r→S W→Calls P g (#[.slice A l.length c]++lb) W fun e w'=>e=.returned (.bool r)∧Below W.heap.size W w'
theorem TellsB.at_ {P:Program} {g:Nat} {lb:Array Value} {F:List Int→Option Bool} {S:World→Prop} (h:TellsB P g lb F S) (W:World) (A:Option Addr) (c:Nat) (l:List Int) (r:Bool) (hC:Kd.C (Kd.int .i64) W A l.length l) (hc:l.length≤c) (hF:F l=some r) (hW:S W):Calls P g (#[.slice A l.length c]++lb) W fun e w'=>e=.returned (.bool r)∧Below W.heap.size W w':=h W A c l r hC hc hF hW
def meanL (F:List Int→Option Int):List (List Int)→Int→Option Int
  |[],s=>some s
  |o :: t,s=>(F o).bind fun x=>meanL F t (wrap64 (s+x))
def meanF (k:Nat) (F:List Int→Option Int) (n:Int):Option (Int × Int):=(impl_allOrders.f k n).bind fun l=>if l.length < 1000000 then (meanL F l 0).bind fun s=>(impl_factorial.f k n).bind fun d=>impl_fraction.f k s d else none
def rdL (l:List (List Int)) (i:Nat):List Int:=l.getD i []
theorem rdL_drop (l:List (List Int)) (i:Nat) (h:i < l.length):l.drop i=rdL l i :: l.drop (i+1):=by
  unfold rdL;rw [List.drop_eq_getElem_cons h];simp [h]
theorem at_rows {w:World} {A:Option Addr} {n:Nat} {xs:List (List Int)} (h:Kd.C (Kd.slice 3 (Kd.int .i64)) w A n xs) (i:Nat) (h1:i < n):∃ ad A0 c0,A=some ad∧w.cell? (ad.add i)=some (.slice A0 (rdL xs i).length c0)∧(rdL xs i).length≤c0∧(Kd.int .i64).C w A0 (rdL xs i).length (rdL xs i):=by
  obtain ⟨ad,c,e,_,hK,hc0⟩:=Kd.C_get h ([]:List Int) (i:Int) (by omega) (by omega);rw [Int.toNat_natCast] at hK hc0;have hc:∀ j u,c[j]? =some u→w.cell? (ad.add (i*1+j))=some u:=hc0;obtain ⟨A0,c0,rfl,l0,g0⟩:=hK;exact ⟨ad,A0,c0,e,by have hq:=hc 0 _ rfl;rwa [Nat.mul_one,Nat.add_zero] at hq,l0,g0⟩
set_option maxHeartbeats 8000000 in
set_option maxRecDepth 100000 in
theorem mean_calls (k:Nat) (g:Nat) (lb:Array Value) (eg:∀ args w,(callFunc g args).run Tryz.prog w=.ok (.enter g args) w) (F:List Int→Option Int) (S:World→Prop) (hS:∀ W W':World,S W→Below W.heap.size W W'→S W')
    (ht:TellsI Tryz.prog g lb F S) (n:Int) (r1 r2:Int) (w:World) (h:meanF k F n=some (r1,r2)) (h0:S w):
    Calls Tryz.prog 108 #[.int .i64 n,.func (.func g) #[] lb] w fun e w'=>e=.returned (.agg #[.int .i64 r1,.int .i64 r2])∧Below w.heap.size w w':=by
  obtain ⟨l,hl,h⟩:=Option.bind_eq_some_iff.1 h
  have hlen:l.length < 1000000:=by
    rcases Nat.lt_or_ge l.length 1000000 with h0|h0
    · exact h0
    · rw [if_neg (by omega)] at h;cases h
  rw [if_pos hlen] at h;obtain ⟨s,hs,h⟩:=Option.bind_eq_some_iff.1 h;obtain ⟨d,hd,h⟩:=Option.bind_eq_some_iff.1 h;have hu:=Tryz.underlying25;have HL:=qA hl;have HLEN:=qA hlen;have HSUM:=qA hs;have HD:=qA hd;have HF:=qA h;have HT:=qA ht;have HS:=qA hS;have H0:=qA h0;have HB0:=qA (Below.refl w.heap.size w);clear hl hlen hs hd h ht hS h0;go_enter Tryz.func108,Tryz.ntmps108
  go_wp2_with (first
    |(go_at_call 127;(refine (impl_allOrders.calls k n l _ HL.out).mono ?_);rintro e w6 ⟨v6,rfl,ho,hb⟩;have ho':=Kd.S_R ho;obtain ⟨A6,c6,e6⟩:=Kd.R_slice ho';subst e6;have HO:=qA (Kd.R_reads' ho').2.2;have HB:=qA hb;clear ho ho' hb))
  have HX:Aside0 (w6.heap[w.heap.size]? =some (.cells #[.int .i64 0,.int .i64 0] 25 (0,0))):=⟨(HB.out.block _ (by rw [World.size_alloc];omega)).trans (blk_new w _)⟩
  have HB6:=qA (below_step (below_alloc HB0.out _) HB.out);clear HB
  go_loopg [5,11] l.length (fun kq v5 v11 w'=>∃ (i:Nat) (q:Int),v5=.int .i64 q∧v11=.int .i64 (i:Int)∧Aside0 (i+kq=l.length)∧Aside0 (meanL F (l.drop i) q=some s)∧Aside0 (w'.heap[w.heap.size]? =some (.cells #[.int .i64 0,.int .i64 0] 25 (0,0)))∧Aside0 (Kd.C (Kd.slice 3 (Kd.int .i64)) w' A6 l.length l)∧Aside0 (Below w.heap.size w w'))
  case atStart=>exact ⟨0,0,rfl,rfl,⟨by omega⟩,HSUM,HX,HO,HB6⟩
  case round=>
    clear HO HB6 HX HSUM;obtain ⟨i,q,rfl,rfl,HK,HSUM,HX,HO,HB⟩:=hrel;by_cases hi:i < l.length
    · obtain ⟨k1,hk1⟩:∃ k1,gk=k1+1:=⟨gk - 1,by have:=HK.out;omega⟩
      subst hk1;have hd0:decide (0≤(i:Int))=true:=decide_eq_true (by omega);have hd1:decide (i < l.length)=true:=decide_eq_true hi;have hsum:=HSUM.out;rw [rdL_drop l i hi] at hsum;obtain ⟨x,hx,hsum⟩:=Option.bind_eq_some_iff.1 hsum;obtain ⟨ad,A0,c0,eA,hcell,hlc,hC⟩:=at_rows HO.out i hi;subst eA;have HFX:=qA hx;have HSUM2:=qA hsum;have HLC:=qA hlc;have HC:=qA hC;have E1:=qA (show wrap64 ((i:Int)+1)=((i+1:Nat):Int) by have:=HLEN.out;unfold wrap64;omega);clear hx hsum hlc hC HSUM;generalize rdL l i=o at hcell HFX HLC HC
      go_wp2_with (go_at_fn g;(with_reducible refine (HT.out.at_ _ A0 c0 o x ?_ HLC.out HFX.out ?_).mono ?_);(first|exact HC.out|exact Kd.C_drewN HC.out _|exact Kd.C_drew HC.out);(exact HS.out _ _ H0.out (by repeat (first|exact HB.out|apply pw_below_drewN|apply below_drew1)));rintro e w7 ⟨rfl,hb⟩;have HB7:=qA (below_step HB.out hb);have HX7:=qA ((hb.block _ (lt_of_block HX.out)).trans HX.out);have HO7:=qA (Kd.C_below HO.out hb);clear hb)
      go_roundg k1
      case measure=>omega
      case rel=>exact ⟨i+1,wrap64 (q+x),rfl,by rw [E1.out],⟨by have:=HK.out;omega⟩,HSUM2,HX7,HO7,HB7⟩
    · obtain rfl:i=l.length:=by have:=HK.out;omega
      have hs:=HSUM.out;rw [List.drop_length] at hs;obtain rfl:=Option.some.inj hs;have fx:=(mn_free_of_two HX.out).1;have fx1:=(mn_free_of_two HX.out).2;clear hs HSUM
      go_wp2_with (first
        |(go_at_call 141;(with_reducible refine (impl_factorial.calls k _ d _ HD.out).mono ?_);rintro e w8 ⟨rfl,⟨nd,rfl⟩⟩)
        |(go_at_call 130;(with_reducible refine (impl_fraction.calls k _ _ r1 r2 _ HF.out).mono ?_);rintro e w9 ⟨rfl,hb⟩;have HB9:=qA (below_step HB.out (show Below wr.heap.size wr w9 from ⟨hb.os,hb.tape,hb.output,hb.size,hb.block⟩));have HX9:=qA ((hb.block _ (lt_of_block HX.out)).trans HX.out);have c0:=(mn_cell_of_two HX9.out).1;have c1:=(mn_cell_of_two HX9.out).2;have f0:=(mn_free_of_two HX9.out).1;have f1:=(mn_free_of_two HX9.out).2;clear hb))
      have g0:=blk_put HX9.out 0 (.int .i64 r1) rfl;have g1:=blk_put g0 1 (.int .i64 r2) rfl;refine bodyPost_ret (v:=.agg #[.int .i64 r1,.int .i64 r2]) ?_ rfl ?_
      · exact results_single (r:=.cell 4 25) rfl (.cell w.heap.size 25 #[.int .i64 r1,.int .i64 r2] (0,0) _ rfl g1 hu rfl (by kernel_rfl) .nil)
      · exact ⟨rfl,below_set (below_set HB9.out (Nat.le_refl _)) (Nat.le_refl _)⟩
/-- The mean, if so many are drawn. -/
def drawnF (k:Nat) (F:List Int→Option Int) (n:Int) (right:Bool):Option (Int × Int × Bool):=(impl_isDrawn.f n).bind fun t=>if (t&&right)=true then (meanF k F n).bind fun r=>some (r.1,r.2,true) else some (0,0,false)
set_option maxHeartbeats 8000000 in
set_option maxRecDepth 100000 in
theorem drawnMean_calls (k:Nat) (g:Nat) (lb:Array Value) (eg:∀ args w,(callFunc g args).run Tryz.prog w=.ok (.enter g args) w) (F:List Int→Option Int) (S:World→Prop) (hS:∀ W W':World,S W→Below W.heap.size W W'→S W')
    (ht:TellsI Tryz.prog g lb F S) (n:Int) (right:Bool) (r1 r2:Int) (r3:Bool) (w:World) (h:drawnF k F n right=some (r1,r2,r3)) (h0:S w):
    Calls Tryz.prog 52 #[.int .i64 n,.bool right,.func (.func g) #[] lb] w fun e w'=>e=.returned (.tuple #[.agg #[.int .i64 r1,.int .i64 r2],.bool r3])∧Below w.heap.size w w':=by
  obtain ⟨t,ht1,h⟩:=Option.bind_eq_some_iff.1 h;have hu:=Tryz.underlying25;have HT1:=qA ht1;have HT:=qA ht;have HS:=qA hS;have H0:=qA h0;have HB0:=qA (below_alloc (Below.refl w.heap.size w) (.cells #[.int .i64 0,.int .i64 0] 25));have HX:=qA (blk_new w (.cells #[.int .i64 0,.int .i64 0] 25));clear ht1 ht hS h0;by_cases hc:(t&&right)=true
  · rw [if_pos hc] at h;obtain ⟨⟨q1,q2⟩,hm,h⟩:=Option.bind_eq_some_iff.1 h;have h':=Option.some.inj h;simp only [Prod.mk.injEq] at h';obtain ⟨rfl,rfl,rfl⟩:=h';have HM:=qA hm;simp only [Bool.and_eq_true] at hc;obtain ⟨rfl,rfl⟩:=hc;clear h hm;have fx:=(mn_free_of_two HX.out).1;have fx1:=(mn_free_of_two HX.out).2;go_enter Tryz.func52,Tryz.ntmps52
    go_wp2_with (first
      |(go_at_call 64;(with_reducible refine (impl_isDrawn.calls n true _ HT1.out).mono ?_);rintro e w6 ⟨rfl,⟨nd,rfl⟩⟩)
      |(go_at_call 108;(refine (mean_calls k g lb eg F S HS.out HT.out n q1 q2 _ HM.out ?_).mono ?_);(exact HS.out _ _ H0.out (by repeat (first|exact HB0.out|apply pw_below_drewN|apply below_drew1)));rintro e w7 ⟨rfl,hb⟩;have HB7:=qA (below_step (pw_below_drewN HB0.out _) hb);have HX7:=qA ((hb.block _ (lt_of_block HX.out)).trans HX.out);have c0:=(mn_cell_of_two HX7.out).1;have c1:=(mn_cell_of_two HX7.out).2;have f0:=(mn_free_of_two HX7.out).1;have f1:=(mn_free_of_two HX7.out).2;clear hb))
    have g0:=blk_put HX7.out 0 (.int .i64 q1) rfl;have g1:=blk_put g0 1 (.int .i64 q2) rfl;refine bodyPost_ret (v:=.tuple #[.agg #[.int .i64 q1,.int .i64 q2],.bool true]) ?_ rfl ?_
    · exact results_list (rs:=[.cell 6 25,.tmp 7]) rfl (by simp) (.cell w.heap.size 25 #[.int .i64 q1,.int .i64 q2] (0,0) _ rfl g1 hu rfl (by kernel_rfl) (.tmp .nil))
    · exact ⟨rfl,below_set (below_set HB7.out (Nat.le_refl _)) (Nat.le_refl _)⟩
  · rw [if_neg hc] at h;have h':=Option.some.inj h;simp only [Prod.mk.injEq] at h';obtain ⟨rfl,rfl,rfl⟩:=h';have c0:=(mn_cell_of_two HX.out).1;have c1:=(mn_cell_of_two HX.out).2;have f0:=(mn_free_of_two HX.out).1;have f1:=(mn_free_of_two HX.out).2;clear h
    cases t with
    |false=>
      clear hc;go_enter Tryz.func52,Tryz.ntmps52
      go_wp2_with (go_at_call 64;(with_reducible refine (impl_isDrawn.calls n false _ HT1.out).mono ?_);rintro e w6 ⟨rfl,⟨nd,rfl⟩⟩)
      have g0:=blk_put (w:=(w.alloc (.cells #[.int .i64 0,.int .i64 0] 25)).drewN nd) HX.out 0 (.int .i64 0) rfl;have g1:=blk_put g0 1 (.int .i64 0) rfl;refine bodyPost_ret (v:=.tuple #[.agg #[.int .i64 0,.int .i64 0],.bool false]) ?_ rfl ?_
      · exact results_list (rs:=[.cell 6 25,.tmp 7]) rfl (by simp) (.cell w.heap.size 25 #[.int .i64 0,.int .i64 0] (0,0) _ rfl g1 hu rfl (by kernel_rfl) (.tmp .nil))
      · exact ⟨rfl,below_set (below_set (pw_below_drewN HB0.out _) (Nat.le_refl _)) (Nat.le_refl _)⟩
    |true=>
      cases right with
      |true=>exact absurd rfl hc
      |false=>
        clear hc;go_enter Tryz.func52,Tryz.ntmps52
        go_wp2_with (go_at_call 64;(with_reducible refine (impl_isDrawn.calls n true _ HT1.out).mono ?_);rintro e w6 ⟨rfl,⟨nd,rfl⟩⟩)
        have g0:=blk_put (w:=(w.alloc (.cells #[.int .i64 0,.int .i64 0] 25)).drewN nd) HX.out 0 (.int .i64 0) rfl;have g1:=blk_put g0 1 (.int .i64 0) rfl;refine bodyPost_ret (v:=.tuple #[.agg #[.int .i64 0,.int .i64 0],.bool false]) ?_ rfl ?_
        · exact results_list (rs:=[.cell 6 25,.tmp 7]) rfl (by simp) (.cell w.heap.size 25 #[.int .i64 0,.int .i64 0] (0,0) _ rfl g1 hu rfl (by kernel_rfl) (.tmp .nil))
        · exact ⟨rfl,below_set (below_set (pw_below_drewN HB0.out _) (Nat.le_refl _)) (Nat.le_refl _)⟩
def chF (F:List Int→Option Bool) (l:List Int):Option Int:=(F l).bind fun b=>if b=true then some 1 else some 0
def ChS (S:World→Prop) (b g:Nat) (lb:Array Value) (W:World):Prop:=S W∧W.heap[b]? =some (.cells #[.func (.func g) #[] lb] 53 (0,0))
set_option maxHeartbeats 8000000 in
set_option maxRecDepth 100000 in
theorem chance_tells (b g:Nat) (lb:Array Value) (eg:∀ args w,(callFunc g args).run Tryz.prog w=.ok (.enter g args) w) (F:List Int→Option Bool) (S:World→Prop) (ht:TellsB Tryz.prog g lb F S):TellsI Tryz.prog 103 #[.pointer (some ⟨b,0,none⟩)] (chF F) (ChS S b g lb):=by
  intro W A c l r hC hc hF hW
  show Calls Tryz.prog 103 #[.slice A l.length c,.pointer (some ⟨b,0,none⟩)] W _
  obtain ⟨t,ht1,hF⟩:=Option.bind_eq_some_iff.1 hF;have hcell:W.cell? ⟨b,0,none⟩=some (.func (.func g) #[] lb):=by simp [World.cell?,hW.2]
  have HC:=qA hC;have HLC:=qA hc;have HT1:=qA ht1;have HT:=qA ht;have HW:=qA hW.1;clear hC hc ht1 ht hW
  cases t with
  |true=>
    obtain rfl:=Option.some.inj hF;go_enter Tryz.func103,Tryz.ntmps103
    go_wp2_with (go_at_fn g;(with_reducible refine (HT.out.at_ _ A c l true HC.out HLC.out HT1.out HW.out).mono ?_);rintro e w7 ⟨rfl,hb⟩;have HB7:=qA hb;clear hb)
    go_ret;exact ⟨rfl,HB7.out⟩
  |false=>
    obtain rfl:=Option.some.inj hF;go_enter Tryz.func103,Tryz.ntmps103
    go_wp2_with (go_at_fn g;(with_reducible refine (HT.out.at_ _ A c l false HC.out HLC.out HT1.out HW.out).mono ?_);rintro e w7 ⟨rfl,hb⟩;have HB7:=qA hb;clear hb)
    go_ret;exact ⟨rfl,HB7.out⟩
set_option maxHeartbeats 8000000 in
set_option maxRecDepth 100000 in
theorem drawnChance_calls (k:Nat) (g:Nat) (lb:Array Value) (eg:∀ args w,(callFunc g args).run Tryz.prog w=.ok (.enter g args) w) (F:List Int→Option Bool) (S:World→Prop) (hS:∀ W W':World,S W→Below W.heap.size W W'→S W')
    (ht:TellsB Tryz.prog g lb F S) (n:Int) (right:Bool) (r1 r2:Int) (r3:Bool) (w:World) (h:drawnF k (chF F) n right=some (r1,r2,r3)) (h0:S w):
    Calls Tryz.prog 45 #[.int .i64 n,.bool right,.func (.func g) #[] lb] w fun e w'=>e=.returned (.tuple #[.agg #[.int .i64 r1,.int .i64 r2],.bool r3])∧Below w.heap.size w w':=by
  have hu:=Tryz.underlying25;have HM:=qA h;have HTL:=qA (chance_tells w.heap.size g lb eg F S ht);have HB2:=qA (below_alloc (below_alloc (Below.refl w.heap.size w) (.cells #[.func (.func g) #[] lb] 53)) (.cells #[.int .i64 0,.int .i64 0] 25));have z1:=blk_alloc (blk_new w (.cells #[.func (.func g) #[] lb] 53)) (.cells #[.int .i64 0,.int .i64 0] 25);have z2:=blk_new (w.alloc (.cells #[.func (.func g) #[] lb] 53)) (.cells #[.int .i64 0,.int .i64 0] 25);rw [World.size_alloc] at z2;have HX0:=qA z1;have HX1:=qA z2
  have HSS:Aside0 (∀ W W':World,ChS S w.heap.size g lb W→Below W.heap.size W W'→ChS S w.heap.size g lb W'):=⟨fun W W' h1 h2=>⟨hS W W' h1.1 h2,(h2.block _ (lt_of_block h1.2)).trans h1.2⟩⟩
  have H0:Aside0 (ChS S w.heap.size g lb ((w.alloc (.cells #[.func (.func g) #[] lb] 53)).alloc (.cells #[.int .i64 0,.int .i64 0] 25))):=⟨⟨hS _ _ (hS _ _ h0 (below_alloc (Below.refl w.heap.size w) _)) (below_alloc (Below.refl _ _) _),z1⟩⟩
  have eg2:∀ args w,(callFunc 103 args).run Tryz.prog w=.ok (.enter 103 args) w:=enters_of Tryz.func103 (by kernel_rfl) rfl;clear z1 z2 h hS ht h0;go_enter Tryz.func45,Tryz.ntmps45
  go_wp2_with (go_at_call 52;(refine (drawnMean_calls k 103 #[.pointer (some ⟨w.heap.size,0,none⟩)] eg2 (chF F) (ChS S w.heap.size g lb) HSS.out HTL.out n right r1 r2 r3 _ HM.out ?_).mono ?_);(exact H0.out);rintro e w7 ⟨rfl,hb⟩;have HB7:=qA (below_step HB2.out hb);have HX7:=qA ((hb.block (w.heap.size+1) (lt_of_block HX1.out)).trans HX1.out);have c0:=(mn_cell_of_two HX7.out).1;have c1:=(mn_cell_of_two HX7.out).2;have f0:=(mn_free_of_two HX7.out).1;have f1:=(mn_free_of_two HX7.out).2;clear hb)
  have g0:=blk_put HX7.out 0 (.int .i64 r1) rfl;have g1:=blk_put g0 1 (.int .i64 r2) rfl;refine bodyPost_ret (v:=.tuple #[.agg #[.int .i64 r1,.int .i64 r2],.bool r3]) ?_ rfl ?_
  · exact results_list (rs:=[.cell 6 25,.tmp 7]) rfl (by simp) (.cell (w.heap.size+1) 25 #[.int .i64 r1,.int .i64 r2] (0,0) _ rfl g1 hu rfl (by kernel_rfl) (.tmp .nil))
  · exact ⟨rfl,below_set (below_set HB7.out (by show w.heap.size≤w.heap.size+1;omega)) (by show w.heap.size≤w.heap.size+1;omega)⟩

/-- What longest's closure does with a list of places: a sorted choice goes behind the others. -/
def rsF (k:Nat) (l:List Int) (places:List Int) (xs:List (List Int)):Option (Bool × List (List Int)):=if xs.length < 100000 then (impl_at.f k l places).bind fun own=>(impl_isSorted.f k own).bind fun b=>some (false,if b=true then xs++[own] else xs) else none
/-- The worlds in which longest's cells lie: the order at bo, its test behind it, the list at bl. -/
structure LgI (w1:World) (A:Option Addr) (c:Nat) (l:List Int) (bo bl:Nat) (xs:List (List Int)) (O:Nat→Prop) (W:World):Prop where
  be:Below w1.heap.size w1 W
  hb:w1.heap.size≤bl
  co:w1.heap[bo]? =some (.cells #[.slice A l.length c] 36 (0,0))
  cs:w1.heap[bo+1]? =some (.cells #[.func (.func 58) #[] #[]] 53 (0,0))
  hC:Kd.C (Kd.int .i64) w1 A l.length l
  hc:l.length≤c
  hv:∃ v,W.heap[bl]? =some (.cells #[v] 32 (0,0))∧Kd.R (Kd.slice 3 (Kd.int .i64)) 36 W w1.heap.size (fun _=>True) v xs∧∀ i,O i ↔ i=bl∨v.ownBlock=some i
section
variable {w1 W W2:World} {A:Option Addr} {c bo bl:Nat} {l:List Int} {xs:List (List Int)} {O:Nat→Prop}
theorem LgI.below (h:LgI w1 A c l bo bl xs O W) (hb:Below W.heap.size W W2):LgI w1 A c l bo bl xs O W2:=by
  obtain ⟨v,h1,h2,h3⟩:=h.hv;exact ⟨below_step h.be hb,h.hb,h.co,h.cs,h.hC,h.hc,v,(hb.block _ (lt_of_block h1)).trans h1,Kd.R_below h2 hb,h3⟩
theorem LgI.lt (h:LgI w1 A c l bo bl xs O W):∀ i,O i→i < W.heap.size:=by
  obtain ⟨v,h1,h2,h3⟩:=h.hv;intro i hi
  rcases (h3 i).1 hi with rfl|hi
  · exact lt_of_block h1
  · exact Kd.R_lt h2 i hi
end
set_option maxHeartbeats 8000000 in
set_option maxRecDepth 100000 in
theorem longest1_steps (k:Nat) (w1:World) (A:Option Addr) (c:Nat) (l:List Int) (bo bl:Nat):Steps Tryz.prog 110 #[.pointer (some ⟨bo,0,none⟩),.pointer (some ⟨bo+1,0,none⟩),.pointer (some ⟨bl,0,none⟩)] (rsF k l) (LgI w1 A c l bo bl):=by
  intro W Ap cp p xs xs' b O hCp hcp hlp hF hI
  show Calls Tryz.prog 110 #[.slice Ap p.length cp,.pointer (some ⟨bo,0,none⟩),.pointer (some ⟨bo+1,0,none⟩),.pointer (some ⟨bl,0,none⟩)] W _
  have eg23:∀ args w,(callFunc 58 args).run Tryz.prog w=.ok (.enter 58 args) w:=enters_of Tryz.func58 (by kernel_rfl) rfl;unfold rsF at hF;by_cases hx:xs.length < 100000
  · rw [if_pos hx] at hF;obtain ⟨own,hown,hF⟩:=Option.bind_eq_some_iff.1 hF;obtain ⟨t,ht,hF⟩:=Option.bind_eq_some_iff.1 hF;have h':=Option.some.inj hF;simp only [Prod.mk.injEq] at h';obtain ⟨rfl,hxs⟩:=h';have HI:=qA hI;have HX:=qA hx;have HOWN:=qA hown;have HTT:=qA ht;have HCP:=qA hCp;have HLP:=qA hcp;have q1:W.cell? ⟨bo,0,none⟩=some (.slice A l.length c):=ch_cell ((hI.be.block _ (lt_of_block hI.co)).trans hI.co);have q2:W.cell? ⟨bo+1,0,none⟩=some (.func (.func 58) #[] #[]):=ch_cell ((hI.be.block _ (lt_of_block hI.cs)).trans hI.cs);have HB0:=qA (Below.refl W.heap.size W);clear hF hI hx hown ht hCp hcp hlp
    cases t with
    |false=>
      rw [if_neg Bool.false_ne_true] at hxs;subst hxs;go_enter Tryz.func110,Tryz.ntmps110
      go_wp2_with (first
        |(go_at_call 111;(refine (impl_at.calls k A c l Ap cp p own _ (Kd.C_below HI.out.hC HI.out.be) HI.out.hc HCP.out HLP.out HOWN.out).mono ?_);rintro e w5 ⟨v5,rfl,ho,hb⟩;have q3:=(hb.cell (World.block_lt_of_cell? _ _ q2)).trans q2;obtain ⟨A5,c5,e5⟩:=Kd.R_slice ho;subst e5;have HO5:=qA ho;have HB5:=qA hb;clear ho hb)
        |(go_at_fn 58;(refine (impl_isSorted.calls k A5 c5 own false _ (Kd.R_reads' HO5.out).2.2 (Kd.R_reads' HO5.out).2.1 HTT.out).mono ?_);rintro e w6 ⟨rfl,hd⟩;have HB6:=qA (below_step HB5.out (Drawn0.below hd));clear hd))
      go_ret;exact ⟨rfl,O,HI.out.below HB6.out,Fr.of_below HB6.out,Nw.refl _ _⟩
    |true=>
      rw [if_pos rfl] at hxs;obtain ⟨v,hv1,hv2,hv3⟩:=HI.out.hv;obtain ⟨Av,cv,ev⟩:=Kd.R_slice hv2;subst ev;have HV1:=qA hv1;have HV2:=qA hv2;have HV3:=qA hv3;have HXS:=qA hxs;have q4:=ch_cell hv1;have q5:=blk_frozen hv1 0;clear hv1 hv2 hv3 hxs;go_enter Tryz.func110,Tryz.ntmps110
      go_wp2_with (first
        |(go_at_call 111;(refine (impl_at.calls k A c l Ap cp p own _ (Kd.C_below HI.out.hC HI.out.be) HI.out.hc HCP.out HLP.out HOWN.out).mono ?_);rintro e w5 ⟨v5,rfl,ho,hb⟩;have q3:=(hb.cell (World.block_lt_of_cell? _ _ q2)).trans q2;obtain ⟨A5,c5,e5⟩:=Kd.R_slice ho;subst e5;have HO5:=qA ho;have HB5:=qA hb;clear ho hb)
        |(go_at_fn 58;(refine (impl_isSorted.calls k A5 c5 own true _ (Kd.R_reads' HO5.out).2.2 (Kd.R_reads' HO5.out).2.1 HTT.out).mono ?_);rintro e w6 ⟨rfl,hd⟩;have HB6:=qA (below_step HB5.out (Drawn0.below hd));have HO6:=qA (Kd.R_lower (Kd.R_below HO5.out (Drawn0.below hd)) (below_size HI.out.be));have HV6:=qA ((HB6.out.block _ (lt_of_block HV1.out)).trans HV1.out);have HR6:=qA (Kd.R_below HV2.out HB6.out);have q6:=ch_cell HV6.out;clear hd)
        |((with_reducible refine gate_builtin (b:=.append) (xs:= #[.tmp 13,.tmp 15]) rfl ?_);at_builtin;refine Kd.R_append (Kd.slice 3 (Kd.int .i64)) (w0:=w6) w1.heap.size rfl (.tmp 13) (.tmp 15) 32 36 (.slice none 0 0) 24 rfl Tryz.underlying32 info36 rfl (by decide) (by omega) (.slice Av xs.length cv) xs own [.slice A5 own.length c5] (fun _=>True) (fun k_=>some k_=(.slice A5 own.length c5:Value).ownBlock) rfl rfl ?aP ?aK ?aF ?aO ?aB ?aS ?aL ?_;(case aK=>exact (fun k_ hk_=>⟨trivial,((Kd.R_apart' HO6.out (Kd.R_typed HR6.out) (by decide)).1 k_ hk_.symm).2⟩));(case aP=>exact Kd.M_row (Kd.R_tight rfl HO6.out));(case aF=>exact (fun _ _=>trivial));(case aO=>exact HR6.out);(case aB=>exact (Below.refl _ _));(case aS=>exact (below_size (below_step HI.out.be HB6.out)));(case aL=>have:=HX.out;omega);intro v7 w7 ho hb hg hat;rw [HXS.out] at ho;obtain ⟨A7,c7,e7⟩:=Kd.R_slice ho;subst e7;have hV7:=(hg.block bl (lt_of_block HV6.out) (Kd.R_ne HR6.out HV6.out (by decide))).trans HV6.out;have q7:=ch_cell hV7;have q8:=blk_frozen hV7 0;have HV7:=qA hV7;have HO7:=qA ho;have HG7:=qA hg;have HAT:=qA hat;have HB7:=qA hb;clear ho hb hg hat hV7))
      go_ret
      have hw7:Fr O W w7:=⟨HB7.out.os.trans HB6.out.os,HB7.out.tape.trans HB6.out.tape,HB7.out.output.trans HB6.out.output,Nat.le_trans HB6.out.size HB7.out.size,fun i hi ho=>(HG7.out.block i (Nat.lt_of_lt_of_le hi HB6.out.size) (fun e_=>ho ((HV3.out i).2 (.inr e_.symm)))).trans (HB6.out.block i hi)⟩
      have hbl:O bl:=(HV3.out bl).2 (.inl rfl);refine ⟨rfl,fun i=>i=bl∨(Value.slice A7 xs'.length c7).ownBlock=some i,⟨below_set (below_step' HI.out.be HB6.out HB7.out) HI.out.hb,HI.out.hb,HI.out.co,HI.out.cs,HI.out.hC,HI.out.hc,_,blk_put HV7.out 0 (.slice A7 xs'.length c7) rfl,Kd.R_set HO7.out HV7.out (by decide) 0 _,fun _=>Iff.rfl⟩,⟨hw7.os,hw7.tape,hw7.output,by simpa [World.setCell] using hw7.size,fun i hi ho=>(Below.heap_setCell _ ⟨bl,0,none⟩ _ i (by show i≠bl;rintro rfl;exact ho hbl)).trans (hw7.block i hi ho)⟩,?_⟩;rintro i (rfl|hi)
      · exact .inl hbl
      · rcases HAT.out with h_|⟨b_,h1_,h2_⟩
        · exact .inl ((HV3.out i).2 (.inr (by rw [← h_];exact hi)))
        · rw [h1_] at hi;obtain rfl:b_=i:=Option.some.inj hi;exact .inr (Nat.le_trans HB6.out.size h2_)
  · rw [if_neg hx] at hF;cases hF
/-- The least of some lists: the first one of these. -/
def minL (C:List Int→List Int→Option Int):List (List Int)→List Int→Option (List Int)
  |[],b=>some b
  |x :: t,b=>(C x b).bind fun c=>if c < 0 then minL C t x else minL C t b
theorem minL_le {C D:List Int→List Int→Option Int} (h:∀ a b,LeO (C a b) (D a b)):∀ t b,LeO (minL C t b) (minL D t b)
  |[],_=>LeO.refl _
  |x :: t,b=>LeO.bind (h x b) fun _=>LeO.ite (minL_le h t x) (minL_le h t b)
def minF (k:Nat) (xs:List (List Int)):Option (List Int):=if 0 < xs.length∧xs.length < 1000000 then minL (slices_Compare_int_int.f k) (xs.drop 1) (rdL xs 0) else none
set_option maxHeartbeats 8000000 in
set_option maxRecDepth 100000 in
theorem MinFunc_calls (k:Nat) (A:Option Addr) (c:Nat) (xs:List (List Int)) (r:List Int) (w:World) (hC:Kd.C (Kd.slice 3 (Kd.int .i64)) w A xs.length xs) (h:minF k xs=some r):
    Calls Tryz.prog 112 #[.slice A xs.length c,.func (.func 113) #[] #[]] w fun e w'=>(∃ Ar cr,e=.returned (.slice Ar r.length cr))∧Below w.heap.size w w':=by
  have eg47:∀ args w,(callFunc 113 args).run Tryz.prog w=.ok (.enter 113 args) w:=enters_of Tryz.func113 (by kernel_rfl) rfl;unfold minF at h;by_cases hn:0 < xs.length∧xs.length < 1000000
  · rw [if_pos hn] at h;obtain ⟨ad,A0,c0,eA,hcell0,hl0,hC0⟩:=at_rows hC 0 hn.1;subst eA;have hd0:decide ((xs.length:Int) < 1)=false:=decide_eq_false (by omega);have p0:=eq_true hn.1;have H:=qA h;have HN:=qA hn;have HC:=qA hC;have HC0:=qA hC0;have HL0:=qA hl0;have HB:=qA (Below.refl w.heap.size w);have E1:=qA (rfl:(1:Nat)=1)
    have e0:ad.add 0=ad:=by first|(simp;done)|(go_simp;done)|(unfold Addr.add;split<;>simp_all)
    rw [e0] at hcell0;generalize rdL xs 0=b0 at hcell0 HC0 HL0 H;clear h hC hC0 hl0 hn;go_enter Tryz.func112,Tryz.ntmps112
    go_wp2
    go_loopg [5,6] (xs.length - 1) (fun kq v5 v6 wr=>∃ (i:Nat) (b:List Int) (Ab:Option Addr) (cb:Nat),v5=.slice Ab b.length cb∧v6=.int .i64 (i:Int)∧Aside0 (i+kq=xs.length∧0 < i)∧Aside0 (minL (slices_Compare_int_int.f k) (xs.drop i) b=some r)∧Aside0 (Kd.C (Kd.slice 3 (Kd.int .i64)) wr (some ad) xs.length xs)∧Aside0 (Kd.C (Kd.int .i64) wr Ab b.length b)∧Aside0 (b.length≤cb)∧Aside0 (Below w.heap.size w wr))
    case atStart=>exact ⟨1,b0,A0,c0,rfl,rfl,⟨by have:=HN.out;omega,by omega⟩,H,HC,HC0,HL0,HB⟩
    case round=>
      clear H HC HC0 HL0 HB hcell0 hd0;obtain ⟨i,b,Ab,cb,rfl,rfl,HK,HL,HC,HCB,HLB,HB⟩:=hrel;by_cases hi:i < xs.length
      · obtain ⟨k1,hk1⟩:∃ k1,gk=k1+1:=⟨gk - 1,by have:=HK.out;omega⟩
        subst hk1;have hd1:decide (i < xs.length)=true:=decide_eq_true hi;have p1:=eq_true (show (0:Int)≤(i:Int) by omega);have hl:=HL.out;rw [rdL_drop xs i hi] at hl;obtain ⟨cc,hcc,hl⟩:=Option.bind_eq_some_iff.1 hl;obtain ⟨ad2,A1,c1,e2,hcell,hl1,hC1⟩:=at_rows HC.out i hi;injection e2 with e2
        subst e2;have HCC:=qA hcc;have HC1:=qA hC1;have HL1:=qA hl1;have E2:=qA (show wrap64 ((i:Int)+1)=((i+1:Nat):Int) by have:=HN.out;unfold wrap64;omega);generalize rdL xs i=x at hcell HCC HC1 HL1 hl;clear hcc hC1 hl1 HL;by_cases hlt:cc < 0
        · have HL2:=qA (show minL (slices_Compare_int_int.f k) (xs.drop (i+1)) x=some r by rw [if_pos hlt] at hl;exact hl);have hd2:decide (cc < 0)=true:=decide_eq_true hlt;clear hl hlt
          go_wp2_with (go_at_fn 113;(refine (slices_Compare_int_int.calls k A1 c1 x Ab cb b cc _ HC1.out HL1.out HCB.out HLB.out HCC.out).mono ?_);rintro e w7 ⟨rfl,hd⟩;have hb:=Drawn0.below hd;have hcell7:=(hb.cell (World.block_lt_of_cell? _ _ hcell)).trans hcell;have HB7:=qA (below_step HB.out hb);have HC7:=qA (Kd.C_below HC.out hb);have HX7:=qA (Kd.C_below HC1.out hb);clear hd hb)
          go_roundg k1
          case measure=>omega
          case rel=>exact ⟨i+1,x,A1,c1,rfl,by rw [E2.out],⟨by have:=HK.out;omega,by omega⟩,HL2,HC7,HX7,HL1,HB7⟩
        · have HL2:=qA (show minL (slices_Compare_int_int.f k) (xs.drop (i+1)) b=some r by rw [if_neg hlt] at hl;exact hl);have hd2:decide (cc < 0)=false:=decide_eq_false hlt;clear hl hlt
          go_wp2_with (go_at_fn 113;(refine (slices_Compare_int_int.calls k A1 c1 x Ab cb b cc _ HC1.out HL1.out HCB.out HLB.out HCC.out).mono ?_);rintro e w7 ⟨rfl,hd⟩;have hb:=Drawn0.below hd;have HB7:=qA (below_step HB.out hb);have HC7:=qA (Kd.C_below HC.out hb);have HX7:=qA (Kd.C_below HCB.out hb);clear hd hb)
          go_roundg k1
          case measure=>omega
          case rel=>exact ⟨i+1,b,Ab,cb,rfl,by rw [E2.out],⟨by have:=HK.out;omega,by omega⟩,HL2,HC7,HX7,HLB,HB7⟩
      · obtain rfl:i=xs.length:=by have:=HK.out;omega
        have hd1:decide ((xs.length:Int) < (xs.length:Int))=false:=decide_eq_false (by omega);have hl:=HL.out;rw [List.drop_length] at hl;obtain rfl:=Option.some.inj hl;clear hl
        go_wp2
        go_ret;exact ⟨⟨_,_,rfl⟩,HB.out⟩
  · rw [if_neg hn] at h;cases h
/-- The least of the longest choices that are sorted. -/
def longF (k:Nat) (l:List Int):Nat→Option (List Int)
  |0=>some []
  |m+1=>(cwF (rsF k l) l.length (m+1) (m+2) [] 0 []).bind fun r=>if 0 < r.2.length then minF k r.2 else longF k l m
set_option maxHeartbeats 16000000 in
set_option maxRecDepth 100000 in
theorem longest_calls (k:Nat) (A:Option Addr) (c:Nat) (l:List Int) (r:List Int) (w:World) (hC:Kd.C (Kd.int .i64) w A l.length l) (hc:l.length≤c) (hl8:l.length≤800) (h:longF k l l.length=some r):
    Calls Tryz.prog 57 #[.slice A l.length c,.func (.func 58) #[] #[]] w fun e w'=>(∃ Ar cr,e=.returned (.slice Ar r.length cr))∧Below w.heap.size w w':=by
  have eg44:∀ args w,(callFunc 110 args).run Tryz.prog w=.ok (.enter 110 args) w:=enters_of Tryz.func110 (by kernel_rfl) rfl
  obtain ⟨w1,hw1⟩:∃ w1,w1=(w.alloc (.cells #[.slice A l.length c] 36)).alloc (.cells #[.func (.func 58) #[] #[]] 53):=⟨_,rfl⟩
  have z1:=blk_alloc (blk_new w (.cells #[.slice A l.length c] 36)) (.cells #[.func (.func 58) #[] #[]] 53);have z2:=blk_new (w.alloc (.cells #[.slice A l.length c] 36)) (.cells #[.func (.func 58) #[] #[]] 53);rw [World.size_alloc] at z2;rw [← hw1] at z1 z2;have hB1:Below w.heap.size w w1:=by rw [hw1];exact below_alloc (below_alloc (Below.refl _ _) _) _
  have hs1:w1.heap.size=w.heap.size+1+1:=by rw [hw1,World.size_alloc,World.size_alloc]
  have Z1:=qA z1;have Z2:=qA z2;have HB1:=qA hB1;have HS1:=qA hs1;have HC1:=qA (Kd.C_below hC hB1);have HCC:=qA hc;have HL8:=qA hl8;have H:=qA h;have q1:=ch_cell z1;clear z1 z2 hB1 hs1 hC hc hl8 h;go_enter Tryz.func57,Tryz.ntmps57
  go_upto_region 1 with fail
  (try simp only [Nat.add_assoc,Nat.reduceAdd])
  rw [← hw1];clear hw1
  go_wp2
  go_loopg [5] l.length (fun kq v5 wr=>v5=.int .i64 (kq:Int)∧Aside0 (kq≤l.length)∧Aside0 (longF k l kq=some r)∧Aside0 (Below w1.heap.size w1 wr))
  case atStart=>exact ⟨rfl,⟨Nat.le_refl _⟩,H,⟨Below.refl _ _⟩⟩
  case round=>
    clear H q1;obtain ⟨rfl,HK,HL,HB⟩:=hrel
    cases gk with
    |zero=>
      have hl:=HL.out;simp only [longF] at hl;obtain rfl:=Option.some.inj hl;clear hl
      go_wp2
      go_ret;exact ⟨⟨_,_,rfl⟩,below_step HB1.out HB.out⟩
    |succ m=>
      have hl:=HL.out;simp only [longF] at hl;obtain ⟨⟨bb,xs⟩,hch,hl⟩:=Option.bind_eq_some_iff.1 hl;dsimp only at hl;have HCH:=qA hch;have q1:wr.cell? ⟨w.heap.size,0,none⟩=some (.slice A l.length c):=ch_cell ((HB.out.block _ (lt_of_block Z1.out)).trans Z1.out);have hd1:decide (((m+1:Nat):Int) > 0)=true:=decide_eq_true (by omega);have hd2:decide ((0:Int) < ((m+1:Nat):Int))=true:=decide_eq_true (by omega)
      obtain ⟨mi,hmi⟩:∃ mi:Int,mi=((m+1:Nat):Int):=⟨_,rfl⟩
      have E1:=qA (show wrap64 (mi - 1)=(m:Int) by have h1_:=HK.out;have h2_:=HL8.out;rw [hmi];unfold wrap64;omega);have HMI:=qA hmi;rw [← hmi] at hd1 hd2 ⊢;clear hch hmi
      obtain ⟨W5,hW5⟩:∃ W5,W5=(wr.alloc (.cells #[] 36)).alloc (.cells #[.slice (some ⟨wr.heap.size,0,none⟩) 0 0] 32):=⟨_,rfl⟩
      have hB5:Below wr.heap.size wr W5:=by rw [hW5];exact below_alloc (below_alloc (Below.refl _ _) _) _
      have hR5:Kd.R (Kd.slice 3 (Kd.int .i64)) 36 W5 w1.heap.size (fun _=>True) (.slice (some ⟨wr.heap.size,0,none⟩) 0 0) []:=by
        rw [hW5];exact Kd.R_alloc ⟨fun _ _=>trivial,[],World.ownsRow_lit (base:=w1.heap.size) (e:=36) (size:=1) wr #[] 0 (below_size HB.out) (by decide) rfl,Reps.none _ _⟩ _
      have hL5:W5.heap[wr.heap.size+1]? =some (.cells #[.slice (some ⟨wr.heap.size,0,none⟩) 0 0] 32 (0,0)):=by
        rw [hW5];have h_:=blk_new (wr.alloc (.cells #[] 36)) (.cells #[.slice (some ⟨wr.heap.size,0,none⟩) 0 0] 32)
        rwa [World.size_alloc] at h_
      have hI5:LgI w1 A c l w.heap.size (wr.heap.size+1) [] (fun i=>i=wr.heap.size+1∨(Value.slice (some ⟨wr.heap.size,0,none⟩) 0 0).ownBlock=some i) W5:=
        ⟨below_step HB.out hB5,Nat.le_succ_of_le (below_size HB.out),Z1.out,Z2.out,HC1.out,HCC.out,_,hL5,hR5,fun _=>Iff.rfl⟩
      have hcc:=choose_calls 110 #[.pointer (some ⟨w.heap.size,0,none⟩),.pointer (some ⟨w.heap.size+1,0,none⟩),.pointer (some ⟨wr.heap.size+1,0,none⟩)] eg44 (rsF k l) (LgI w1 A c l w.heap.size (wr.heap.size+1)) (fun s O W W' h_ hb_=>h_.below hb_) (fun s O W h_=>h_.lt) (longest1_steps k w1 A c l w.heap.size (wr.heap.size+1)) l.length (m+1) HL8.out (by have:=HK.out;have:=HL8.out;omega) [] xs bb W5 _ hI5 HCH.out;rw [← HMI.out] at hcc;have HCALL:=qA hcc;have HB5:=qA hB5;have q5:W5.cell? ⟨w.heap.size,0,none⟩=some (.slice A l.length c):=(hB5.cell (World.block_lt_of_cell? _ _ q1)).trans q1;clear hcc hI5 hL5 hR5 hB5
      go_upto_region 5 with fail
      rw [← hW5];clear hW5;by_cases hx:0 < xs.length
      · have HMN:=qA (show minF k xs=some r by rw [if_pos hx] at hl;exact hl);have hd3:decide (0 < xs.length)=true:=decide_eq_true hx;clear hl hx
        go_wp2_with (first
          |(go_at_call 109;(refine HCALL.out.mono ?_);rintro e w8 ⟨rfl,O8,hI8,_,_⟩;obtain ⟨v8,hv1,hv2,_⟩:=hI8.hv;obtain ⟨A8,c8,e8⟩:=Kd.R_slice hv2;subst e8;have q8:=ch_cell hv1;have HR8:=qA hv2;have HB8:=qA hI8.be;clear hv1 hv2 hI8)
          |(go_at_call 112;(refine (MinFunc_calls k A8 c8 xs r _ (Kd.R_reads' HR8.out).2.2 HMN.out).mono ?_);rintro e w9 ⟨⟨Ar,cr,rfl⟩,hb⟩;have HB9:=qA (below_step HB8.out hb);clear hb))
        go_ret;exact ⟨⟨_,_,rfl⟩,below_step HB1.out HB9.out⟩
      · have HL2:=qA (show longF k l m=some r by rw [if_neg hx] at hl;exact hl);have hd3:decide (0 < xs.length)=false:=decide_eq_false hx;clear hl hx
        go_wp2_with (first
          |(go_at_call 109;(refine HCALL.out.mono ?_);rintro e w8 ⟨rfl,O8,hI8,_,_⟩;obtain ⟨v8,hv1,hv2,_⟩:=hI8.hv;obtain ⟨A8,c8,e8⟩:=Kd.R_slice hv2;subst e8;have q8:=ch_cell hv1;have HR8:=qA hv2;have HB8:=qA hI8.be;clear hv1 hv2 hI8))
        go_roundg m
        case measure=>omega
        case rel=>exact ⟨by first|rw [E1.out]|rfl,⟨by have:=HK.out;omega⟩,HL2,HB8⟩
/-- The number of numbers of the longest rise. -/
def riF (k:Nat) (l:List Int):Option Int:=if l.length≤800 then (longF k l l.length).bind fun r=>some (r.length:Int) else none
set_option maxHeartbeats 8000000 in
set_option maxRecDepth 100000 in
theorem rise_tells (k:Nat):TellsI Tryz.prog 56 #[] (riF k) (fun _=>True):=by
  intro W A c l r hC hc hF _
  show Calls Tryz.prog 56 #[.slice A l.length c] W _
  unfold riF at hF;by_cases hl:l.length≤800
  · rw [if_pos hl] at hF;obtain ⟨q,hq,hF⟩:=Option.bind_eq_some_iff.1 hF;obtain rfl:=Option.some.inj hF;have HC:=qA hC;have HLC:=qA hc;have HQ:=qA hq;have HL:=qA hl;clear hF hC hc hq hl;go_enter Tryz.func56,Tryz.ntmps56
    go_wp2_with (go_at_call 57;(refine (longest_calls k A c l q _ HC.out HLC.out HL.out HQ.out).mono ?_);rintro e w7 ⟨⟨Ar,cr,rfl⟩,hb⟩;have HB7:=qA hb;clear hb)
    go_ret;exact ⟨rfl,HB7.out⟩
  · rw [if_neg hl] at hF;cases hF
def impl_MeanRise.f (k:Nat) (a0:Int):Option (Int × Int × Bool):=drawnF k (riF k) a0 true
theorem rsF_le (k:Nat) (l:List Int) (p:List Int) (xs:List (List Int)):LeO (rsF k l p xs) (rsF (k+1) l p xs):=LeO.ite (LeO.bind (impl_at.mono _ _ _) fun _=>LeO.bind (impl_isSorted.mono _ _) fun _=>LeO.refl _) (LeO.none _)
theorem minF_le (k:Nat) (xs:List (List Int)):LeO (minF k xs) (minF (k+1) xs):=LeO.ite (minL_le (fun a b=>slices_Compare_int_int.mono a b k) _ _) (LeO.none _)
theorem longF_le (k:Nat) (l:List Int):∀ m,LeO (longF k l m) (longF (k+1) l m)
  |0=>LeO.refl _
  |m+1=>LeO.bind (cwF_le (fun d s=>rsF_le k l d s) _ _ _ _ _ _) fun _=>LeO.ite (minF_le k _) (longF_le k l m)
theorem riF_le (k:Nat) (l:List Int):LeO (riF k l) (riF (k+1) l):=LeO.ite (LeO.bind (longF_le k l _) fun _=>LeO.refl _) (LeO.none _)
set_option maxHeartbeats 8000000 in
set_option maxRecDepth 100000 in
theorem impl_MeanRise.calls (k:Nat) (a0:Int) (r1_0 r1_1:Int) (r2:Bool) (w:World) (h:impl_MeanRise.f k a0=some (r1_0,r1_1,r2)):
    Calls Tryz.prog 11 #[.int .i64 a0] w fun e w'=>e=.returned (.tuple #[.agg #[.int .i64 r1_0,.int .i64 r1_1],.bool r2])∧Below w.heap.size w w':=by
  have hu:=Tryz.underlying25;have H:=qA h;have HB0:=qA (below_alloc (Below.refl w.heap.size w) (.cells #[.int .i64 0,.int .i64 0] 25));have HX:=qA (blk_new w (.cells #[.int .i64 0,.int .i64 0] 25));have eg:∀ args w,(callFunc 56 args).run Tryz.prog w=.ok (.enter 56 args) w:=enters_of Tryz.func56 (by kernel_rfl) rfl;clear h;go_enter Tryz.func11,Tryz.ntmps11
  go_wp2_with (go_at_call 52;(refine (drawnMean_calls k 56 #[] eg _ (fun _=>True) (fun _ _ _ _=>trivial) (rise_tells k) a0 true r1_0 r1_1 r2 _ H.out trivial).mono ?_);rintro e w7 ⟨rfl,hb⟩;have HB7:=qA (below_step HB0.out hb);have HX7:=qA ((hb.block _ (lt_of_block HX.out)).trans HX.out);have c0:=(mn_cell_of_two HX7.out).1;have c1:=(mn_cell_of_two HX7.out).2;have f0:=(mn_free_of_two HX7.out).1;have f1:=(mn_free_of_two HX7.out).2;clear hb)
  have g0:=blk_put HX7.out 0 (.int .i64 r1_0) rfl;have g1:=blk_put g0 1 (.int .i64 r1_1) rfl;refine bodyPost_ret (v:=.tuple #[.agg #[.int .i64 r1_0,.int .i64 r1_1],.bool r2]) ?_ rfl ?_
  · exact results_list (rs:=[.cell 2 25,.tmp 3]) rfl (by simp) (.cell w.heap.size 25 #[.int .i64 r1_0,.int .i64 r1_1] (0,0) _ rfl g1 hu rfl (by kernel_rfl) (.tmp .nil))
  · exact ⟨rfl,below_set (below_set HB7.out (Nat.le_refl _)) (Nat.le_refl _)⟩
/-- What firstPlaces' closure does with a list of places. -/
def fpF (k:Nat) (l p:List Int) (places:List Int) (_f:Bool):Option (Bool × Bool):=(impl_at.f k l places).bind fun o=>(impl_shape.f k o).bind fun s=>(slices_Equal_int_int.f k s p).bind fun b=>some (b,b)
/-- The worlds in which firstPlaces' cells lie from block b0 on. -/
structure FpI (w0:World) (A:Option Addr) (c:Nat) (l:List Int) (Ap:Option Addr) (cp:Nat) (p:List Int) (b0:Nat) (f:Bool) (O:Nat→Prop) (W:World):Prop where
  e0:b0=w0.heap.size
  be:Below w0.heap.size w0 W
  co:W.heap[b0]? =some (.cells #[.slice A l.length c] 36 (0,0))
  cp_:W.heap[b0+1]? =some (.cells #[.slice Ap p.length cp] 36 (0,0))
  cu:∃ v:Value,W.heap[b0+2]? =some (.cells #[v] 36 (0,0))
  cf:W.heap[b0+3]? =some (.cells #[.bool f] 4 (0,0))
  hC:Kd.C (Kd.int .i64) w0 A l.length l
  hc:l.length≤c
  hCp:Kd.C (Kd.int .i64) w0 Ap p.length p
  hcp:p.length≤cp
  hO:∀ i,O i ↔ i=b0+2∨i=b0+3
section
variable {w0 W W2:World} {A Ap:Option Addr} {c cp b0:Nat} {l p:List Int} {f:Bool} {O:Nat→Prop}
theorem FpI.below (h:FpI w0 A c l Ap cp p b0 f O W) (hb:Below W.heap.size W W2):FpI w0 A c l Ap cp p b0 f O W2:=
  ⟨h.e0,below_step h.be hb,(hb.block _ (lt_of_block h.co)).trans h.co,(hb.block _ (lt_of_block h.cp_)).trans h.cp_,⟨h.cu.choose,(hb.block _ (lt_of_block h.cu.choose_spec)).trans h.cu.choose_spec⟩,(hb.block _ (lt_of_block h.cf)).trans h.cf,h.hC,h.hc,h.hCp,h.hcp,h.hO⟩
theorem FpI.lt (h:FpI w0 A c l Ap cp p b0 f O W):∀ i,O i→i < W.heap.size:=fun i hi=>by
  rcases (h.hO i).1 hi with rfl|rfl
  · exact lt_of_block h.cu.choose_spec
  · exact lt_of_block h.cf
end
set_option maxHeartbeats 8000000 in
set_option maxRecDepth 100000 in
theorem first1_steps (k:Nat) (w0:World) (A:Option Addr) (c:Nat) (l:List Int) (Ap:Option Addr) (cp:Nat) (p:List Int) (b0:Nat):Steps Tryz.prog 162 #[.pointer (some ⟨b0,0,none⟩),.pointer (some ⟨b0+1,0,none⟩),.pointer (some ⟨b0+3,0,none⟩),.pointer (some ⟨b0+2,0,none⟩)] (fpF k l p) (FpI w0 A c l Ap cp p b0):=by
  intro W Aq cq q f f' b O hCq hcq hlq hF hI
  show Calls Tryz.prog 162 #[.slice Aq q.length cq,.pointer (some ⟨b0,0,none⟩),.pointer (some ⟨b0+1,0,none⟩),.pointer (some ⟨b0+3,0,none⟩),.pointer (some ⟨b0+2,0,none⟩)] W _
  obtain ⟨o,ho,hF⟩:=Option.bind_eq_some_iff.1 hF;obtain ⟨s,hs,hF⟩:=Option.bind_eq_some_iff.1 hF;obtain ⟨bq,he,hF⟩:=Option.bind_eq_some_iff.1 hF;have h':=Option.some.inj hF;simp only [Prod.mk.injEq] at h';obtain ⟨rfl,rfl⟩:=h';have HI:=qA hI;have HOO:=qA ho;have HSS:=qA hs;have HEE:=qA he;have HCQ:=qA hCq;have HLQ:=qA hcq;have HB0:=qA (below_drew (Below.refl W.heap.size W));have HB1:=qA (below_step hI.be (below_drew (Below.refl W.heap.size W)));have q1:W.drew.cell? ⟨b0,0,none⟩=some (.slice A l.length c):=(HB0.out.cell (World.block_lt_of_cell? _ _ (ch_cell hI.co))).trans (ch_cell hI.co);have q2:W.drew.cell? ⟨b0+1,0,none⟩=some (.slice Ap p.length cp):=(HB0.out.cell (World.block_lt_of_cell? _ _ (ch_cell hI.cp_))).trans (ch_cell hI.cp_);clear hF hI ho hs he hCq hcq;go_enter Tryz.func162,Tryz.ntmps162
  go_upto_region 1 with fail
  refine wp_region_held_drew (S:=(fun W_:World=>W_.cell? ⟨b0,0,none⟩=some (.slice A l.length c)∧W_.cell? ⟨b0+1,0,none⟩=some (.slice Ap p.length cp))) (by kernel_rfl) ⟨q1,q2⟩ (fun hHeld=>?_);refine wpAnyH_take (i:=0) (oi:=?oimF0) (v:=(.slice A l.length c)) ?himF0 (by kernel_rfl) (by kernel_rfl) (by kernel_rfl) ?hQmF0 ?hymF0 hHeld ?hmF0
  case himF0=>(simp only [List.getElem?_toArray,List.getElem?_cons_succ,List.getElem?_cons_zero];rfl)
  case hQmF0=>exact fun _ _ _ h=>h
  case hymF0=>exact Or.inl ⟨by rfl,by intro w_ hSw;have h_:=hSw.1;first|(go_simp;done)|(go_simp;with_reducible rfl)⟩
  try simp only [Act.put,List.setIfInBounds_toArray,List.set_cons_zero,List.set_cons_succ]
  refine wpAnyH_take (i:=1) (oi:=?oimF1) (v:=?vmF1) ?himF1 (by kernel_rfl) (by kernel_rfl) (by kernel_rfl) ?hQmF1 ?hymF1 hHeld ?hmF1
  case himF1=>(simp only [List.getElem?_toArray,List.getElem?_cons_succ,List.getElem?_cons_zero];rfl)
  case hQmF1=>exact fun _ _ _ h=>h
  case hymF1=>exact Or.inl ⟨by rfl,by intro w_ hSw;(try dsimp only at hSw);first|(go_simp;done)|(go_simp;with_reducible rfl)⟩
  try simp only [Act.put,List.setIfInBounds_toArray,List.set_cons_zero,List.set_cons_succ]
  refine wpAnyH_take (i:=4) (oi:=?oimF4) (v:=(.slice Ap p.length cp)) ?himF4 (by kernel_rfl) (by kernel_rfl) (by kernel_rfl) ?hQmF4 ?hymF4 hHeld ?hmF4
  case himF4=>(simp only [List.getElem?_toArray,List.getElem?_cons_succ,List.getElem?_cons_zero];rfl)
  case hQmF4=>exact fun _ _ _ h=>h
  case hymF4=>exact Or.inl ⟨by rfl,by intro w_ hSw;have h_:=hSw.2;first|(go_simp;done)|(go_simp;with_reducible rfl)⟩
  try simp only [Act.put,List.setIfInBounds_toArray,List.set_cons_zero,List.set_cons_succ]
  refine wpAnyH_ready (rs:=[2]) (by kernel_rfl) (by simp) ?_;refine AllReadyH.cons (o:=?ocmF2) ?hcmF2 (fun K hK=>?hkmF2) AllReadyH.nil
  case hcmF2=>(simp only [List.getElem?_toArray,List.getElem?_cons_succ,List.getElem?_cons_zero];rfl)
  go_simp
  go_at_call 111
  refine (impl_at.calls k A c l Aq cq q o _ (Kd.C_below HI.out.hC HB1.out) HI.out.hc (Kd.C_drew HCQ.out) HLQ.out HOO.out).mono ?_;rintro e w5 ⟨v5,rfl,ho,hb⟩;obtain ⟨A5,c5,e5⟩:=Kd.R_slice ho;subst e5;have HB5:=qA (below_step HB0.out hb);have HIB5:=qA (below_step HB1.out hb);have q15:=(hb.cell (World.block_lt_of_cell? _ _ q1)).trans q1;have q25:=(hb.cell (World.block_lt_of_cell? _ _ q2)).trans q2
  try dsimp only
  refine hK.out _ _ ⟨q15,q25⟩ (fun hHeld=>?_);clear hK K
  try simp only [Act.put,List.setIfInBounds_toArray,List.set_cons_zero,List.set_cons_succ]
  refine wpAnyH_ready (rs:=[3]) (by kernel_rfl) (by simp) ?_;refine AllReadyH.cons (o:=?ocmF3) ?hcmF3 (fun K hK=>?hkmF3) AllReadyH.nil
  case hcmF3=>(simp only [List.getElem?_toArray,List.getElem?_cons_succ,List.getElem?_cons_zero];rfl)
  go_simp
  go_at_call 164
  refine (impl_shape.calls k A5 c5 o s _ (Kd.R_reads' ho).2.2 (Kd.R_reads' ho).2.1 HSS.out).mono ?_;rintro e w6 ⟨v6,rfl,ho6,hb6⟩;obtain ⟨A6,c6,e6⟩:=Kd.R_slice ho6;subst e6;have HB6:=qA (below_step HB5.out hb6);have HIB6:=qA (below_step HIB5.out hb6);have q16:=(hb6.cell (World.block_lt_of_cell? _ _ q15)).trans q15;have q26:=(hb6.cell (World.block_lt_of_cell? _ _ q25)).trans q25
  try dsimp only
  refine hK.out _ _ ⟨q16,q26⟩ (fun hHeld=>?_);clear hK K
  try simp only [Act.put,List.setIfInBounds_toArray,List.set_cons_zero,List.set_cons_succ]
  refine wpAnyH_ready (rs:=[5]) (by kernel_rfl) (by simp) ?_;refine AllReadyH.cons (o:=?ocmF5) ?hcmF5 (fun K hK=>?hkmF5) AllReadyH.nil
  case hcmF5=>(simp only [List.getElem?_toArray,List.getElem?_cons_succ,List.getElem?_cons_zero];rfl)
  go_simp
  go_at_call 163
  refine (slices_Equal_int_int.calls k A6 c6 s Ap cp p bq _ (Kd.R_reads' ho6).2.2 (Kd.R_reads' ho6).2.1 (Kd.C_below HI.out.hCp HIB6.out) HI.out.hcp HEE.out).mono ?_;rintro e w7 ⟨rfl,hd⟩;have hb7:=Drawn0.below hd;have HB7:=qA (below_step HB6.out hb7);have q17:=(hb7.cell (World.block_lt_of_cell? _ _ q16)).trans q16;have q27:=(hb7.cell (World.block_lt_of_cell? _ _ q26)).trans q26;have HI7:=qA (HI.out.below HB7.out);have x3:=ch_cell HI7.out.cf;have f3:=blk_frozen HI7.out.cf 0
  try dsimp only
  refine hK.out _ _ ⟨q17,q27⟩ (fun hHeld=>?_);clear hK K
  try simp only [Act.put,List.setIfInBounds_toArray,List.set_cons_zero,List.set_cons_succ]
  refine wpAnyH_ready (rs:=[6]) (by kernel_rfl) (by simp) ?_;refine AllReadyH.cons (o:=?ocmF6) ?hcmF6 (fun K hK=>?hkmF6) AllReadyH.nil
  case hcmF6=>(simp only [List.getElem?_toArray,List.getElem?_cons_succ,List.getElem?_cons_zero];rfl)
  go_simp;have hf8:=blk_put HI7.out.cf 0 (.bool bq) rfl;have q18:(w7.setCell ⟨b0+3,0,none⟩ (.bool bq)).cell? ⟨b0,0,none⟩=some (.slice A l.length c):=ch_cell (blk_far (p:=⟨b0+3,0,none⟩) HI7.out.co (by show b0≠b0+3;omega) (.bool bq));have q28:(w7.setCell ⟨b0+3,0,none⟩ (.bool bq)).cell? ⟨b0+1,0,none⟩=some (.slice Ap p.length cp):=ch_cell (blk_far (p:=⟨b0+3,0,none⟩) HI7.out.cp_ (by show b0+1≠b0+3;omega) (.bool bq))
  try dsimp only
  refine hK.out _ _ ⟨q18,q28⟩ (fun hHeld=>?_);clear hK K
  try simp only [Act.put,List.setIfInBounds_toArray,List.set_cons_zero,List.set_cons_succ]
  refine wpAnyH_done (by kernel_rfl) ?_ _;obtain ⟨vu,hvu⟩:=HI7.out.cu;have hu8:=blk_far (p:=⟨b0+3,0,none⟩) hvu (by show b0+2≠b0+3;omega) (.bool bq);have x4:=ch_cell hu8;have f4:=blk_frozen hu8 0;have hu9:=blk_put hu8 0 (.slice Aq q.length cq) rfl;have hf9:=blk_far (p:=⟨b0+2,0,none⟩) hf8 (by show b0+3≠b0+2;omega) (.slice Aq q.length cq);have x5:=ch_cell hf9
  go_wp2
  go_ret;have hE:=HI7.out.e0;have far:∀ (j:Nat),j≠b0+2→j≠b0+3→((w7.setCell ⟨b0+3,0,none⟩ (.bool bq)).setCell ⟨b0+2,0,none⟩ (.slice Aq q.length cq)).heap[j]? =w7.heap[j]?:=fun j h1 h2=>(Below.heap_setCell _ ⟨b0+2,0,none⟩ _ j (by show j≠b0+2;exact h1)).trans (Below.heap_setCell _ ⟨b0+3,0,none⟩ _ j (by show j≠b0+3;exact h2))
  refine ⟨rfl,O,⟨hE,below_set (below_set HI7.out.be (by omega)) (by omega),(far _ (by omega) (by omega)).trans HI7.out.co,(far _ (by omega) (by omega)).trans HI7.out.cp_,⟨_,hu9⟩,hf9,HI7.out.hC,HI7.out.hc,HI7.out.hCp,HI7.out.hcp,HI7.out.hO⟩,⟨HB7.out.os,HB7.out.tape,HB7.out.output,by simpa [World.setCell] using HB7.out.size,fun i hi ho=>?_⟩,Nw.refl _ _⟩
  have hn:i≠b0+2∧i≠b0+3:=⟨fun e_=>ho ((HI7.out.hO i).2 (.inl e_)),fun e_=>ho ((HI7.out.hO i).2 (.inr e_))⟩
  exact (far i hn.1 hn.2).trans (HB7.out.block i hi)
/-- Whether numbers contain a pattern, as the program looks for it. -/
def fpB (k:Nat) (l p:List Int):Option Bool:=if l.length≤800∧p.length≤800 then (cwF (fpF k l p) l.length p.length (p.length+1) [] 0 false).bind fun r=>some r.2 else none
set_option maxHeartbeats 16000000 in
set_option maxRecDepth 100000 in
theorem firstPlaces_calls (k:Nat) (A:Option Addr) (c:Nat) (l:List Int) (Ap:Option Addr) (cp:Nat) (p:List Int) (r:Bool) (w:World) (hC:Kd.C (Kd.int .i64) w A l.length l) (hc:l.length≤c) (hCp:Kd.C (Kd.int .i64) w Ap p.length p) (hcp:p.length≤cp) (h:fpB k l p=some r):
    Calls Tryz.prog 147 #[.slice A l.length c,.slice Ap p.length cp] w fun e w'=>(∃ v,e=.returned (.tuple #[v,.bool r]))∧Below w.heap.size w w':=by
  have eg84:∀ args w,(callFunc 162 args).run Tryz.prog w=.ok (.enter 162 args) w:=enters_of Tryz.func162 (by kernel_rfl) rfl;unfold fpB at h;by_cases hl:l.length≤800∧p.length≤800
  · rw [if_pos hl] at h;obtain ⟨⟨bb,f⟩,hch,h⟩:=Option.bind_eq_some_iff.1 h;obtain rfl:=Option.some.inj h
    obtain ⟨w4,hw4⟩:∃ w4,w4=(((w.alloc (.cells #[.slice A l.length c] 36)).alloc (.cells #[.slice Ap p.length cp] 36)).alloc (.cells #[.slice none 0 0] 36)).alloc (.cells #[.bool false] 4):=⟨_,rfl⟩
    have z1:=blk_new w (.cells #[.slice A l.length c] 36);have z2:=blk_new (w.alloc (.cells #[.slice A l.length c] 36)) (.cells #[.slice Ap p.length cp] 36);have z3:=blk_new ((w.alloc (.cells #[.slice A l.length c] 36)).alloc (.cells #[.slice Ap p.length cp] 36)) (.cells #[.slice none 0 0] 36);have z4:=blk_new (((w.alloc (.cells #[.slice A l.length c] 36)).alloc (.cells #[.slice Ap p.length cp] 36)).alloc (.cells #[.slice none 0 0] 36)) (.cells #[.bool false] 4);rw [World.size_alloc,World.size_alloc,World.size_alloc] at z4;rw [World.size_alloc,World.size_alloc] at z3;rw [World.size_alloc] at z2
    have hI:FpI w A c l Ap cp p w.heap.size false (fun i=>i=w.heap.size+2∨i=w.heap.size+3) w4:=by
      rw [hw4];exact ⟨rfl,below_alloc (below_alloc (below_alloc (below_alloc (Below.refl _ _) _) _) _) _,blk_alloc (blk_alloc (blk_alloc z1 _) _) _,blk_alloc (blk_alloc z2 _) _,⟨_,blk_alloc z3 _⟩,z4,hC,hc,hCp,hcp,fun _=>Iff.rfl⟩
    have HCH:=qA (choose_calls 162 #[.pointer (some ⟨w.heap.size,0,none⟩),.pointer (some ⟨w.heap.size+1,0,none⟩),.pointer (some ⟨w.heap.size+3,0,none⟩),.pointer (some ⟨w.heap.size+2,0,none⟩)] eg84 (fpF k l p) (FpI w A c l Ap cp p w.heap.size) (fun s O W W' h_ hb_=>h_.below hb_) (fun s O W h_=>h_.lt) (first1_steps k w A c l Ap cp p w.heap.size) l.length p.length hl.1 hl.2 false f bb w4 _ hI hch);have q1:=ch_cell hI.co;have q2:=ch_cell hI.cp_;clear z1 z2 z3 z4 hI hC hc hCp hcp h hch hl;go_enter Tryz.func147,Tryz.ntmps147
    go_upto_region 2 with fail
    (try simp only [Nat.add_assoc,Nat.reduceAdd])
    rw [← hw4];clear hw4
    cases f with
    |true=>
      go_wp2_with (go_at_call 109;(refine HCH.out.mono ?_);rintro e w8 ⟨rfl,O8,hI8,_,_⟩;obtain ⟨vu,hvu⟩:=hI8.cu;have x1:=ch_cell hvu;have x2:=ch_cell hI8.cf;have HB8:=qA hI8.be;clear hvu hI8)
      repeat (go_quiet (fail);try go_wp2)
      go_ret2;exact ⟨⟨_,rfl⟩,by repeat (with_reducible first|exact HB8.out|apply pw_below_drewN|apply below_drew1)⟩
    |false=>
      go_wp2_with (go_at_call 109;(refine HCH.out.mono ?_);rintro e w8 ⟨rfl,O8,hI8,_,_⟩;obtain ⟨vu,hvu⟩:=hI8.cu;have x1:=ch_cell hvu;have x2:=ch_cell hI8.cf;have HB8:=qA hI8.be;clear hvu hI8)
      repeat (go_quiet (fail);try go_wp2)
      go_ret2;exact ⟨⟨_,rfl⟩,by repeat (with_reducible first|exact HB8.out|apply pw_below_drewN|apply below_drew1)⟩
  · rw [if_neg hl] at h;cases h
set_option maxHeartbeats 8000000 in
set_option maxRecDepth 100000 in
theorem contains_calls (k:Nat) (A:Option Addr) (c:Nat) (l:List Int) (Ap:Option Addr) (cp:Nat) (p:List Int) (r:Bool) (w:World) (hC:Kd.C (Kd.int .i64) w A l.length l) (hc:l.length≤c) (hCp:Kd.C (Kd.int .i64) w Ap p.length p) (hcp:p.length≤cp) (h:fpB k l p=some r):
    Calls Tryz.prog 123 #[.slice A l.length c,.slice Ap p.length cp] w fun e w'=>e=.returned (.bool r)∧Below w.heap.size w w':=by
  have HF:=qA (firstPlaces_calls k A c l Ap cp p r w hC hc hCp hcp h);clear hC hc hCp hcp h;go_enter Tryz.func123,Tryz.ntmps123
  go_wp2_with (go_at_call 147;(refine HF.out.mono ?_);rintro e w7 ⟨⟨v7,rfl⟩,hb⟩;have HB7:=qA hb;clear hb)
  go_ret;exact ⟨rfl,HB7.out⟩
/-- Whether F tells true of one of some lists. -/
def anyO (F:List Int→Option Bool):List (List Int)→Option Bool
  |[]=>some false
  |x :: t=>(F x).bind fun b=>if b=true then some true else anyO F t
def idxO (F:List Int→Option Bool):List (List Int)→Int→Option Int
  |[],_=>some (-1)
  |x :: t,i=>(F x).bind fun b=>if b=true then some i else idxO F t (i+1)
theorem idxO_any (F:List Int→Option Bool):∀ (l:List (List Int)) (i:Int) (r:Bool),0≤i→anyO F l=some r→∃ q,idxO F l i=some q∧decide (0≤q)=r
  |[],_,r,_,h=>⟨-1,rfl,by obtain rfl:=Option.some.inj h;rfl⟩
  |x :: t,i,r,hi,h=>by
    obtain ⟨b,hb,h⟩:=Option.bind_eq_some_iff.1 h
    cases b with
    |true=>
      obtain rfl:=Option.some.inj h;exact ⟨i,by simp [idxO,hb],decide_eq_true hi⟩
    |false=>
      obtain ⟨q,h1,h2⟩:=idxO_any F t (i+1) r (by omega) (by simpa using h);exact ⟨q,by simp [idxO,hb,h1],h2⟩
set_option maxHeartbeats 4000000 in
set_option maxRecDepth 100000 in
theorem IndexFunc_rows (g:Nat) (lb:Array Value) (eg:∀ args w,(callFunc g args).run Tryz.prog w=.ok (.enter g args) w) (F:List Int→Option Bool) (S:World→Prop)
    (hS:∀ W W':World,S W→Below W.heap.size W W'→S W') (ht:TellsB Tryz.prog g lb F S) (A:Option Addr) (c:Nat) (l:List (List Int)) (r:Int) (w:World) (hr:Kd.C (Kd.slice 3 (Kd.int .i64)) w A l.length l) (hlim:l.length≤1000000) (h:idxO F l 0=some r) (h0:S w):
    Calls Tryz.prog 117 #[.slice A l.length c,.func (.func g) #[] lb] w fun e w'=>e=.returned (.int .i64 r)∧Below w.heap.size w w':=by
  have HR:=qA hr;have H0:=qA h0;have HT:=qA ht;have HS:=qA hS;have HM:=qA hlim;have H:=qA h;clear hr h0 ht hS hlim h;go_enter Tryz.func117,Tryz.ntmps117
  go_wp2
  go_loopg [8] l.length (fun kq v8 w'=>∃ (i:Nat),v8=.int .i64 (i:Int)∧Aside0 (i+kq=l.length)∧Aside0 (idxO F (l.drop i) (i:Int)=some r)∧Aside0 (Below w.heap.size w w')∧Aside0 (S w'))
  case atStart=>exact ⟨0,rfl,⟨by omega⟩,H,⟨Below.refl _ _⟩,H0⟩
  case round=>
    clear H0 H;obtain ⟨i,rfl,HK,HF,HB,HW⟩:=hrel;by_cases hi:i < l.length
    · obtain ⟨k1,hk1⟩:∃ k1,gk=k1+1:=⟨gk - 1,by have:=HK.out;omega⟩
      subst hk1;have d1:decide (i < l.length)=true:=decide_eq_true hi;obtain ⟨ad,A1,c1,eA,hcell,hl1,hC1⟩:=at_rows (Kd.C_below HR.out HB.out) i hi;subst eA;have p2:=eq_true (show (0:Int)≤(i:Int) by omega);have d2:decide (0≤(i:Int))=true:=decide_eq_true (by omega);have E1:=qA (show wrap64 ((i:Int)+1)=((i+1:Nat):Int) by have:=HM.out;unfold wrap64;omega);have hf:=HF.out;rw [rdL_drop l i hi] at hf;obtain ⟨b,hb,hf⟩:=Option.bind_eq_some_iff.1 hf;have HFB:=qA hb;have HC1:=qA hC1;have HL1:=qA hl1;generalize rdL l i=x at hcell HFB HC1 HL1;clear hb hC1 hl1 HF
      cases b with
      |true=>
        rw [if_pos rfl] at hf;obtain rfl:=Option.some.inj hf;clear hf
        go_wp2_with (go_at_fn g;(refine (HT.out.at_ _ A1 c1 x true HC1.out HL1.out HFB.out HW.out).mono ?_);rintro e w6 ⟨rfl,hb⟩;have HB2:=qA (below_step HB.out hb);clear hb)
        go_ret;exact ⟨rfl,HB2.out⟩
      |false=>
        have HF2:=qA (show idxO F (l.drop (i+1)) ((i+1:Nat):Int)=some r by simpa using hf);clear hf
        go_wp2_with (go_at_fn g;(refine (HT.out.at_ _ A1 c1 x false HC1.out HL1.out HFB.out HW.out).mono ?_);rintro e w6 ⟨rfl,hb⟩;have HB2:=qA (below_step HB.out hb);have HW2:=qA (HS.out _ _ HW.out hb);clear hb)
        go_roundg k1
        case measure=>omega
        case rel=>exact ⟨i+1,by rw [E1.out],⟨by have:=HK.out;omega⟩,HF2,HB2,HW2⟩
    · obtain rfl:i=l.length:=by have:=HK.out;omega
      have d1:decide ((l.length:Int) < (l.length:Int))=false:=decide_eq_false (by omega);have hf:=HF.out;rw [List.drop_length] at hf;obtain rfl:=Option.some.inj hf;clear hf
      go_wp2
      go_ret;exact ⟨rfl,HB.out⟩
set_option maxHeartbeats 4000000 in
set_option maxRecDepth 100000 in
theorem ContainsFunc_rows (g:Nat) (lb:Array Value) (eg:∀ args w,(callFunc g args).run Tryz.prog w=.ok (.enter g args) w) (F:List Int→Option Bool) (S:World→Prop)
    (hS:∀ W W':World,S W→Below W.heap.size W W'→S W') (ht:TellsB Tryz.prog g lb F S) (A:Option Addr) (c:Nat) (l:List (List Int)) (r:Bool) (w:World) (hr:Kd.C (Kd.slice 3 (Kd.int .i64)) w A l.length l) (hlim:l.length≤1000000) (h:anyO F l=some r) (h0:S w):
    Calls Tryz.prog 120 #[.slice A l.length c,.func (.func g) #[] lb] w fun e w'=>e=.returned (.bool r)∧Below w.heap.size w w':=by
  obtain ⟨q,hq,hqr⟩:=idxO_any F l 0 r (Int.le_refl _) h;have HI:=qA (IndexFunc_rows g lb eg F S hS ht A c l q w hr hlim hq h0);have HQ:=qA hqr;clear hr h0 hS ht h hq hqr;go_enter Tryz.func120,Tryz.ntmps120
  go_wp2_with (go_at_call 117;(refine HI.out.mono ?_);rintro e w6 ⟨rfl,hb⟩;have HB2:=qA hb;clear hb)
  go_ret;exact ⟨by rw [← HQ.out];first|rfl|simp,HB2.out⟩
/-- The worlds in which an order lies in cell b. -/
def OrS (w0:World) (b:Nat) (A:Option Addr) (c:Nat) (l:List Int) (W:World):Prop:=W.heap[b]? =some (.cells #[.slice A l.length c] 36 (0,0))∧Below w0.heap.size w0 W
theorem OrS.below {w0:World} {b:Nat} {A:Option Addr} {c:Nat} {l:List Int} (W W':World) (h:OrS w0 b A c l W) (hb:Below W.heap.size W W'):OrS w0 b A c l W':=⟨(hb.block _ (lt_of_block h.1)).trans h.1,below_step h.2 hb⟩
set_option maxHeartbeats 8000000 in
set_option maxRecDepth 100000 in
theorem avoids1_tells (k:Nat) (w0:World) (b:Nat) (A:Option Addr) (c:Nat) (l:List Int) (hr0:Kd.C (Kd.int .i64) w0 A l.length l) (hc0:l.length≤c):TellsB Tryz.prog 122 #[.pointer (some ⟨b,0,none⟩)] (fpB k l) (OrS w0 b A c l):=by
  intro W Ap cp p r hC hc hF hW
  show Calls Tryz.prog 122 #[.slice Ap p.length cp,.pointer (some ⟨b,0,none⟩)] W _
  have q1:=ch_cell hW.1;have HC:=qA (contains_calls k A c l Ap cp p r W (Kd.C_below hr0 hW.2) hc0 hC hc hF);clear hC hc hF hW;go_enter Tryz.func122,Tryz.ntmps122
  go_wp2_with (go_at_call 123;(refine HC.out.mono ?_);rintro e w7 ⟨rfl,hb⟩;have HB7:=qA hb;clear hb)
  go_ret;exact ⟨rfl,HB7.out⟩
/-- Whether an order avoids all of some patterns, as the program tells it. -/
def avF (k:Nat) (pats:List (List Int)) (l:List Int):Option Bool:=if pats.length≤1000000 then (anyO (fpB k l) pats).bind fun b=>some (!b) else none
set_option maxHeartbeats 8000000 in
set_option maxRecDepth 100000 in
theorem avoids_calls (k:Nat) (A:Option Addr) (c:Nat) (l:List Int) (Ap:Option Addr) (cp:Nat) (pats:List (List Int)) (r:Bool) (w:World) (hC:Kd.C (Kd.int .i64) w A l.length l) (hc:l.length≤c) (hCp:Kd.C (Kd.slice 3 (Kd.int .i64)) w Ap pats.length pats) (h:avF k pats l=some r):
    Calls Tryz.prog 72 #[.slice A l.length c,.slice Ap pats.length cp] w fun e w'=>e=.returned (.bool r)∧Below w.heap.size w w':=by
  have eg56:∀ args w,(callFunc 122 args).run Tryz.prog w=.ok (.enter 122 args) w:=enters_of Tryz.func122 (by kernel_rfl) rfl;unfold avF at h;by_cases hl:pats.length≤1000000
  · rw [if_pos hl] at h;obtain ⟨b,hb,h⟩:=Option.bind_eq_some_iff.1 h;obtain rfl:=Option.some.inj h;have hb1:=below_alloc (Below.refl w.heap.size w) (.cells #[.slice A l.length c] 36);have HX:=qA (ContainsFunc_rows 122 #[.pointer (some ⟨w.heap.size,0,none⟩)] eg56 (fpB k l) (OrS w w.heap.size A c l) OrS.below (avoids1_tells k w w.heap.size A c l hC hc) Ap cp pats b (w.alloc (.cells #[.slice A l.length c] 36)) (Kd.C_below hCp hb1) hl hb ⟨blk_new w _,hb1⟩);have HB1:=qA hb1;clear hC hc hCp hb h hb1;go_enter Tryz.func72,Tryz.ntmps72
    go_wp2_with (go_at_call 120;(refine HX.out.mono ?_);rintro e w7 ⟨rfl,hb⟩;have HB7:=qA (below_step HB1.out hb);clear hb)
    go_ret;exact ⟨rfl,HB7.out⟩
  · rw [if_neg hl] at h;cases h
def ntF (k:Nat) (p:List Int):Option Bool:=(impl_isOrder.f k p).bind fun b=>some (!b)
set_option maxHeartbeats 8000000 in
set_option maxRecDepth 100000 in
theorem arePat1_tells (k:Nat):TellsB Tryz.prog 121 #[] (ntF k) (fun _=>True):=by
  intro W Ap cp p r hC hc hF _
  show Calls Tryz.prog 121 #[.slice Ap p.length cp] W _
  obtain ⟨b,hb,hF⟩:=Option.bind_eq_some_iff.1 hF;obtain rfl:=Option.some.inj hF;have HC:=qA (impl_isOrder.calls k Ap cp p b W hC hc hb);clear hC hc hF hb;go_enter Tryz.func121,Tryz.ntmps121
  go_wp2_with (go_at_call 79;(refine HC.out.mono ?_);rintro e w7 ⟨rfl,hd⟩;have HB7:=qA (Drawn0.below hd);clear hd)
  go_ret;exact ⟨rfl,HB7.out⟩
/-- Whether lists are patterns, and not too many. -/
def arF (k:Nat) (pats:List (List Int)):Option Bool:=if pats.length≤4 then (anyO (ntF k) pats).bind fun b=>some (!b) else some false
set_option maxHeartbeats 8000000 in
set_option maxRecDepth 100000 in
theorem arePatterns_calls (k:Nat) (Ap:Option Addr) (cp:Nat) (pats:List (List Int)) (r:Bool) (w:World) (hCp:Kd.C (Kd.slice 3 (Kd.int .i64)) w Ap pats.length pats) (h:arF k pats=some r):
    Calls Tryz.prog 70 #[.slice Ap pats.length cp] w fun e w'=>e=.returned (.bool r)∧Below w.heap.size w w':=by
  have eg54:∀ args w,(callFunc 121 args).run Tryz.prog w=.ok (.enter 121 args) w:=enters_of Tryz.func121 (by kernel_rfl) rfl;unfold arF at h;by_cases hl:pats.length≤4
  · rw [if_pos hl] at h;obtain ⟨b,hb,h⟩:=Option.bind_eq_some_iff.1 h;obtain rfl:=Option.some.inj h;have HX:=qA (ContainsFunc_rows 121 #[] eg54 (ntF k) (fun _=>True) (fun _ _ _ _=>trivial) (arePat1_tells k) Ap cp pats b w hCp (by omega) hb trivial);have hd1:decide (pats.length≤4)=true:=decide_eq_true hl;have hd2:decide ((pats.length:Int)≤4)=true:=decide_eq_true (by omega);clear hCp hb h;go_enter Tryz.func70,Tryz.ntmps70
    go_wp2_with (go_at_call 120;(refine HX.out.mono ?_);rintro e w7 ⟨rfl,hb⟩;have HB7:=qA hb;clear hb)
    go_ret;exact ⟨rfl,HB7.out⟩
  · rw [if_neg hl] at h;obtain rfl:=Option.some.inj h;have hd1:decide (pats.length≤4)=false:=decide_eq_false hl;have hd2:decide ((pats.length:Int)≤4)=false:=decide_eq_false (by omega);clear hCp h;go_enter Tryz.func70,Tryz.ntmps70
    go_wp2
    go_ret;exact ⟨rfl,Below.refl _ _⟩
/-- The worlds in which patterns lie in cell b. -/
def PaS (w0:World) (b:Nat) (A:Option Addr) (c n:Nat) (W:World):Prop:=W.heap[b]? =some (.cells #[.slice A n c] 32 (0,0))∧Below w0.heap.size w0 W
theorem PaS.below {w0:World} {b:Nat} {A:Option Addr} {c n:Nat} (W W':World) (h:PaS w0 b A c n W) (hb:Below W.heap.size W W'):PaS w0 b A c n W':=⟨(hb.block _ (lt_of_block h.1)).trans h.1,below_step h.2 hb⟩
set_option maxHeartbeats 8000000 in
set_option maxRecDepth 100000 in
theorem chanceAv1_tells (k:Nat) (w0:World) (b:Nat) (Ap:Option Addr) (cp:Nat) (pats:List (List Int)) (hCp:Kd.C (Kd.slice 3 (Kd.int .i64)) w0 Ap pats.length pats):TellsB Tryz.prog 71 #[.pointer (some ⟨b,0,none⟩)] (avF k pats) (PaS w0 b Ap cp pats.length):=by
  intro W A c l r hC hc hF hW
  show Calls Tryz.prog 71 #[.slice A l.length c,.pointer (some ⟨b,0,none⟩)] W _
  have q1:=ch_cell hW.1;have HC:=qA (avoids_calls k A c l Ap cp pats r W hC hc (Kd.C_below hCp hW.2) hF);clear hC hc hF hW;go_enter Tryz.func71,Tryz.ntmps71
  go_wp2_with (go_at_call 72;(refine HC.out.mono ?_);rintro e w7 ⟨rfl,hb⟩;have HB7:=qA hb;clear hb)
  go_ret;exact ⟨rfl,HB7.out⟩
def impl_ChanceAvoids.f (k:Nat) (a0:Int) (pats:List (List Int)):Option (Int × Int × Bool):=(arF k pats).bind fun b=>drawnF k (chF (avF k pats)) a0 b
set_option maxHeartbeats 8000000 in
set_option maxRecDepth 100000 in
theorem impl_ChanceAvoids.calls (k:Nat) (a0:Int) (A1:Option Addr) (c1:Nat) (l1:List (List Int)) (r1_0 r1_1:Int) (r2:Bool) (w:World) (hr1:Kd.C (Kd.slice 3 (Kd.int .i64)) w A1 l1.length l1) (hc1:l1.length≤c1) (h:impl_ChanceAvoids.f k a0 l1=some (r1_0,r1_1,r2)):
    Calls Tryz.prog 20 #[.int .i64 a0,.slice A1 l1.length c1] w fun e w'=>e=.returned (.tuple #[.agg #[.int .i64 r1_0,.int .i64 r1_1],.bool r2])∧Below w.heap.size w w':=by
  have hu:=Tryz.underlying25;obtain ⟨t,ht,h⟩:=Option.bind_eq_some_iff.1 h;have HT:=qA ht;have H:=qA h;have z1:=blk_alloc (blk_new w (.cells #[.slice A1 l1.length c1] 32)) (.cells #[.int .i64 0,.int .i64 0] 25);have z2:=blk_new (w.alloc (.cells #[.slice A1 l1.length c1] 32)) (.cells #[.int .i64 0,.int .i64 0] 25);rw [World.size_alloc] at z2;have HK:=qA z1;have HX:=qA z2;have q1:=ch_cell z1;have HC:=qA hr1;have HB0:=qA (below_alloc (below_alloc (Below.refl w.heap.size w) (.cells #[.slice A1 l1.length c1] 32)) (.cells #[.int .i64 0,.int .i64 0] 25));have eg:∀ args w,(callFunc 71 args).run Tryz.prog w=.ok (.enter 71 args) w:=enters_of Tryz.func71 (by kernel_rfl) rfl;clear h ht z1 z2 hr1;go_enter Tryz.func20,Tryz.ntmps20
  go_wp2_with (first
    |(go_at_call 70;(refine (arePatterns_calls k A1 c1 l1 t _ (Kd.C_below HC.out HB0.out) HT.out).mono ?_);rintro e w5 ⟨rfl,hb⟩;have HB5:=qA (below_step HB0.out hb);have HK5:=qA ((hb.block _ (lt_of_block HK.out)).trans HK.out);have HX5:=qA ((hb.block _ (lt_of_block HX.out)).trans HX.out);clear hb)
    |(go_at_call 45;(refine (drawnChance_calls k 71 #[.pointer (some ⟨w.heap.size,0,none⟩)] eg (avF k l1) (PaS w w.heap.size A1 c1 l1.length) PaS.below (chanceAv1_tells k w w.heap.size A1 c1 l1 HC.out) a0 t r1_0 r1_1 r2 _ H.out ⟨HK5.out,HB5.out⟩).mono ?_);rintro e w7 ⟨rfl,hb⟩;have HB7:=qA (below_step HB5.out hb);have HX7:=qA ((hb.block _ (lt_of_block HX5.out)).trans HX5.out);have c0:=(mn_cell_of_two HX7.out).1;have c1_:=(mn_cell_of_two HX7.out).2;have f0:=(mn_free_of_two HX7.out).1;have f1:=(mn_free_of_two HX7.out).2;clear hb))
  have g0:=blk_put HX7.out 0 (.int .i64 r1_0) rfl;have g1:=blk_put g0 1 (.int .i64 r1_1) rfl;refine bodyPost_ret (v:=.tuple #[.agg #[.int .i64 r1_0,.int .i64 r1_1],.bool r2]) ?_ rfl ?_
  · exact results_list (rs:=[.cell 4 25,.tmp 5]) rfl (by simp) (.cell (w.heap.size+1) 25 #[.int .i64 r1_0,.int .i64 r1_1] (0,0) _ rfl g1 hu rfl (by kernel_rfl) (.tmp .nil))
  · exact ⟨rfl,below_set (below_set HB7.out (by show w.heap.size≤w.heap.size+1;omega)) (by show w.heap.size≤w.heap.size+1;omega)⟩
theorem sorts_tells (k:Nat):TellsB Tryz.prog 46 #[] (fun l=>impl_isSortable.f k l) (fun _=>True):=by
  intro W A c l r hC hc hF _;refine (impl_isSortable.calls k A c l r W hC hc hF).mono ?_;rintro e w' ⟨rfl,hd⟩;exact ⟨rfl,hd⟩
def impl_ChanceSorts.f (k:Nat) (a0:Int):Option (Int × Int × Bool):=drawnF k (chF (fun l=>impl_isSortable.f k l)) a0 true
set_option maxHeartbeats 8000000 in
set_option maxRecDepth 100000 in
theorem impl_ChanceSorts.calls (k:Nat) (a0:Int) (r1_0 r1_1:Int) (r2:Bool) (w:World) (h:impl_ChanceSorts.f k a0=some (r1_0,r1_1,r2)):
    Calls Tryz.prog 7 #[.int .i64 a0] w fun e w'=>e=.returned (.tuple #[.agg #[.int .i64 r1_0,.int .i64 r1_1],.bool r2])∧Below w.heap.size w w':=by
  have hu:=Tryz.underlying25;have H:=qA h;have HB0:=qA (below_alloc (Below.refl w.heap.size w) (.cells #[.int .i64 0,.int .i64 0] 25));have HX:=qA (blk_new w (.cells #[.int .i64 0,.int .i64 0] 25));have eg:∀ args w,(callFunc 46 args).run Tryz.prog w=.ok (.enter 46 args) w:=enters_of Tryz.func46 (by kernel_rfl) rfl;clear h;go_enter Tryz.func7,Tryz.ntmps7
  go_wp2_with (go_at_call 45;(refine (drawnChance_calls k 46 #[] eg _ (fun _=>True) (fun _ _ _ _=>trivial) (sorts_tells k) a0 true r1_0 r1_1 r2 _ H.out trivial).mono ?_);rintro e w7 ⟨rfl,hb⟩;have HB7:=qA (below_step HB0.out hb);have HX7:=qA ((hb.block _ (lt_of_block HX.out)).trans HX.out);have c0:=(mn_cell_of_two HX7.out).1;have c1:=(mn_cell_of_two HX7.out).2;have f0:=(mn_free_of_two HX7.out).1;have f1:=(mn_free_of_two HX7.out).2;clear hb)
  have g0:=blk_put HX7.out 0 (.int .i64 r1_0) rfl;have g1:=blk_put g0 1 (.int .i64 r1_1) rfl;refine bodyPost_ret (v:=.tuple #[.agg #[.int .i64 r1_0,.int .i64 r1_1],.bool r2]) ?_ rfl ?_
  · exact results_list (rs:=[.cell 2 25,.tmp 3]) rfl (by simp) (.cell w.heap.size 25 #[.int .i64 r1_0,.int .i64 r1_1] (0,0) _ rfl g1 hu rfl (by kernel_rfl) (.tmp .nil))
  · exact ⟨rfl,below_set (below_set HB7.out (Nat.le_refl _)) (Nat.le_refl _)⟩
theorem impl_MeanInversions_tells (k:Nat):TellsI Tryz.prog 60 #[] (fun l=>impl_inversions.f k l) (fun _=>True):=by
  intro W A c l r hC hc hF _;refine (impl_inversions.calls k A c l r W hC hc hF).mono ?_;rintro e w' ⟨rfl,hd⟩;exact ⟨rfl,hd.below⟩
def impl_MeanInversions.f (k:Nat) (a0:Int):Option (Int × Int × Bool):=drawnF k (fun l=>impl_inversions.f k l) a0 true
set_option maxHeartbeats 8000000 in
set_option maxRecDepth 100000 in
theorem impl_MeanInversions.calls (k:Nat) (a0:Int) (r1_0 r1_1:Int) (r2:Bool) (w:World) (h:impl_MeanInversions.f k a0=some (r1_0,r1_1,r2)):
    Calls Tryz.prog 13 #[.int .i64 a0] w fun e w'=>e=.returned (.tuple #[.agg #[.int .i64 r1_0,.int .i64 r1_1],.bool r2])∧Below w.heap.size w w':=by
  have hu:=Tryz.underlying25;have H:=qA h;have HB0:=qA (below_alloc (Below.refl w.heap.size w) (.cells #[.int .i64 0,.int .i64 0] 25));have HX:=qA (blk_new w (.cells #[.int .i64 0,.int .i64 0] 25));have eg:∀ args w,(callFunc 60 args).run Tryz.prog w=.ok (.enter 60 args) w:=enters_of Tryz.func60 (by kernel_rfl) rfl;clear h;go_enter Tryz.func13,Tryz.ntmps13
  go_wp2_with (go_at_call 52;(refine (drawnMean_calls k 60 #[] eg _ (fun _=>True) (fun _ _ _ _=>trivial) (impl_MeanInversions_tells k) a0 true r1_0 r1_1 r2 _ H.out trivial).mono ?_);rintro e w7 ⟨rfl,hb⟩;have HB7:=qA (below_step HB0.out hb);have HX7:=qA ((hb.block _ (lt_of_block HX.out)).trans HX.out);have c0:=(mn_cell_of_two HX7.out).1;have c1:=(mn_cell_of_two HX7.out).2;have f0:=(mn_free_of_two HX7.out).1;have f1:=(mn_free_of_two HX7.out).2;clear hb)
  have g0:=blk_put HX7.out 0 (.int .i64 r1_0) rfl;have g1:=blk_put g0 1 (.int .i64 r1_1) rfl;refine bodyPost_ret (v:=.tuple #[.agg #[.int .i64 r1_0,.int .i64 r1_1],.bool r2]) ?_ rfl ?_
  · exact results_list (rs:=[.cell 2 25,.tmp 3]) rfl (by simp) (.cell w.heap.size 25 #[.int .i64 r1_0,.int .i64 r1_1] (0,0) _ rfl g1 hu rfl (by kernel_rfl) (.tmp .nil))
  · exact ⟨rfl,below_set (below_set HB7.out (Nat.le_refl _)) (Nat.le_refl _)⟩
def runsF (l:List Int):Option Int:=(impl_runs.f l).bind fun r=>some (r.length:Int)
set_option maxHeartbeats 8000000 in
set_option maxRecDepth 100000 in
theorem runs_tells:TellsI Tryz.prog 53 #[] runsF (fun _=>True):=by
  intro W A c l r hC hc hF _
  show Calls Tryz.prog 53 #[.slice A l.length c] W _
  obtain ⟨q,hq,hF⟩:=Option.bind_eq_some_iff.1 hF;obtain rfl:=Option.some.inj hF;have HC:=qA hC;have HLC:=qA hc;have HQ:=qA hq;clear hC hc hq hF;go_enter Tryz.func53,Tryz.ntmps53
  go_wp2_with (go_at_call 54;(refine (impl_runs.calls A c l q _ (by first|exact HC.out|exact Kd.C_drewN HC.out _|exact Kd.C_drew HC.out) HLC.out HQ.out).mono ?_);rintro e w7 ⟨v7,rfl,ho,hb⟩;obtain ⟨A7,c7,e7⟩:=Kd.S_slice ho;subst e7;have HB7:=qA hb;clear ho hb)
  go_ret;exact ⟨rfl,HB7.out⟩
def impl_MeanRuns.f (k:Nat) (a0:Int):Option (Int × Int × Bool):=drawnF k runsF a0 true
set_option maxHeartbeats 8000000 in
set_option maxRecDepth 100000 in
theorem impl_MeanRuns.calls (k:Nat) (a0:Int) (r1_0 r1_1:Int) (r2:Bool) (w:World) (h:impl_MeanRuns.f k a0=some (r1_0,r1_1,r2)):
    Calls Tryz.prog 9 #[.int .i64 a0] w fun e w'=>e=.returned (.tuple #[.agg #[.int .i64 r1_0,.int .i64 r1_1],.bool r2])∧Below w.heap.size w w':=by
  have hu:=Tryz.underlying25;have H:=qA h;have HB0:=qA (below_alloc (Below.refl w.heap.size w) (.cells #[.int .i64 0,.int .i64 0] 25));have HX:=qA (blk_new w (.cells #[.int .i64 0,.int .i64 0] 25));have eg:∀ args w,(callFunc 53 args).run Tryz.prog w=.ok (.enter 53 args) w:=enters_of Tryz.func53 (by kernel_rfl) rfl;clear h;go_enter Tryz.func9,Tryz.ntmps9
  go_wp2_with (go_at_call 52;(refine (drawnMean_calls k 53 #[] eg _ (fun _=>True) (fun _ _ _ _=>trivial) runs_tells a0 true r1_0 r1_1 r2 _ H.out trivial).mono ?_);rintro e w7 ⟨rfl,hb⟩;have HB7:=qA (below_step HB0.out hb);have HX7:=qA ((hb.block _ (lt_of_block HX.out)).trans HX.out);have c0:=(mn_cell_of_two HX7.out).1;have c1:=(mn_cell_of_two HX7.out).2;have f0:=(mn_free_of_two HX7.out).1;have f1:=(mn_free_of_two HX7.out).2;clear hb)
  have g0:=blk_put HX7.out 0 (.int .i64 r1_0) rfl;have g1:=blk_put g0 1 (.int .i64 r1_1) rfl;refine bodyPost_ret (v:=.tuple #[.agg #[.int .i64 r1_0,.int .i64 r1_1],.bool r2]) ?_ rfl ?_
  · exact results_list (rs:=[.cell 2 25,.tmp 3]) rfl (by simp) (.cell w.heap.size 25 #[.int .i64 r1_0,.int .i64 r1_1] (0,0) _ rfl g1 hu rfl (by kernel_rfl) (.tmp .nil))
  · exact ⟨rfl,below_set (below_set HB7.out (Nat.le_refl _)) (Nat.le_refl _)⟩
def lastLt (n:Int) (q:List Int):Option Bool:=if 0 < q.length then some (decide (rd q ((q.length - 1:Nat):Int) < n)) else none
set_option maxHeartbeats 8000000 in
set_option maxRecDepth 100000 in
theorem queue1_tells (n:Int) (b:Nat):TellsB Tryz.prog 118 #[.pointer (some ⟨b,0,none⟩)] (lastLt n) (fun W=>W.heap[b]? =some (.cells #[.int .i64 n] 3 (0,0))):=by
  intro W A c l r hC hc hF hW
  show Calls Tryz.prog 118 #[.slice A l.length c,.pointer (some ⟨b,0,none⟩)] W _
  unfold lastLt at hF;by_cases hp:0 < l.length
  · rw [if_pos hp] at hF;obtain rfl:=Option.some.inj hF;have hlm:=hC.2.1;have q1:=ch_cell hW
    obtain ⟨jt,hjt⟩:∃ jt:Int,wrap64 ((l.length:Int) - 1)=jt:=⟨_,rfl⟩
    have hjtw:IntKind.i64.wrap ((l.length:Int) - 1)=jt:=(i64_w _).trans hjt;have hjn:jt=((l.length - 1:Nat):Int):=by rw [← hjt];unfold wrap64;omega
    have pj:=eq_true (show 0≤jt by omega);have qj:=eq_true (show jt < (l.length:Int) by omega);obtain ⟨ad,ead,hcell⟩:=Kd.at_int hC jt (of_eq_true pj) (of_eq_true qj);subst ead;have HR:=qA (show decide (rd l ((l.length - 1:Nat):Int) < n)=decide (rd l jt < n) by rw [hjn]);generalize rd l jt=x at hcell HR;clear hF hC hc hW hlm hjn hp;go_enter Tryz.func118,Tryz.ntmps118
    go_upto_region 1 with fail
    go_quiet (fail)
    go_wp2
    go_ret;exact ⟨by rw [HR.out];rfl,by repeat (first|exact Below.refl _ _|apply pw_below_drewN|apply below_drew1)⟩
  · rw [if_neg hp] at hF;cases hF
def quO:List Int→List (List Int)→Option (List (List Int))
  |[],out=>some out
  |n :: t,out=>(idxO (lastLt n) out 0).bind fun k=>if out.length < 1000 then (if k < 0 then quO t (out++[[n]]) else if k < (out.length:Int)∧(out.getD k.toNat []).length < 1000 then quO t (out.set k.toNat (out.getD k.toNat []++[n])) else none) else none
def queuesF (l:List Int):Option (List (List Int)):=if l.length≤1000 then quO l [] else none
theorem qu_drop (l:List Int) (i:Nat) (h:i < l.length):l.drop i=rd l (i:Int) :: l.drop (i+1):=by
  unfold rd;rw [Int.toNat_natCast,List.drop_eq_getElem_cons h];simp [h]
def qu_T8:Bool × List (List Nat × List Nat):=(true,[([],[]),([],[]),([],[]),([],[]),([2,3],[2,3]),([4],[4]),([],[]),([6],[6]),([5,7],[5,7]),([0,1,0,1,2,3,4,5,6,7,8],[0,1]),([9,8,8,0,1,2,3,4,5,6,7,8],[8,9])])
def qu_B8:List Nat:=[0,0,0,0,12,28,0,64,252,511,1023]
theorem qu_tab8:rtab .any (opsOf Tryz.f66 8)=qu_T8:=by kernel_rfl
theorem qu_bits8:waitsOk qu_T8.2 qu_B8=true:=by kernel_rfl
set_option maxHeartbeats 16000000 in
set_option maxRecDepth 100000 in
theorem queues_calls (A0:Option Addr) (c0:Nat) (l0:List Int) (r:List (List Int)) (w:World) (hr0:Kd.C (Kd.int .i64) w A0 l0.length l0) (hc0:l0.length≤c0) (h:queuesF l0=some r):
    Calls Tryz.prog 66 #[.slice A0 l0.length c0] w fun e w'=>∃ v0_:Value,e=.returned (v0_)∧Kd.S (Kd.slice 3 (Kd.int .i64)) 36 w' w.heap.size (fun _=>True) v0_ r∧Below w.heap.size w w':=by
  unfold queuesF at h;by_cases hll:l0.length≤1000
  · rw [if_pos hll] at h;have H:=qA h;have HR0:=qA hr0;have HC0:=qA hc0;have HLL:=qA hll;have HB:=qA (Below.refl w.heap.size w);have eg:∀ args w,(callFunc 118 args).run Tryz.prog w=.ok (.enter 118 args) w:=enters_of Tryz.func118 (by kernel_rfl) rfl;clear hr0 hc0 hll h;go_enter Tryz.func66,Tryz.ntmps66
    go_wp2_with (first
      |((with_reducible refine gate_dst (N:=7) rfl ?_);refine Kd.S_lit (Kd.slice 3 (Kd.int .i64)) (w0:=w) w.heap.size 36 ?hg (N:=7) ?hd (xs:=([]:List (List Int))) (inner:=[]) (ok:=fun _=>True) (okp:=fun _=>True) ?hr ?hp (fun _ hk=>hk) trivial (HB.out) (Nat.le_refl _) (by simp) ?_;(case hd=>rfl);(case hg=>rfl);(case hr=>first|(go_simp;done)|(go_simp;rfl));(case hp=>exact (Reps.none _ _));intro v9 w9 ho9 hb hg_ hnew_;have HT:=qA ho9;clear HB;have HB:=qA hb;clear hg_ hnew_ hb ho9))
    go_loopg [3,10] l0.length (fun kq v3 v10 wr=>∃ (i:Nat) (rs:List (List Int)),v10=.int .i64 (i:Int)∧Aside0 (i+kq=l0.length)∧Aside0 (quO (l0.drop i) rs=some r)∧Aside0 (Kd.S (Kd.slice 3 (Kd.int .i64)) 36 wr w.heap.size (fun _=>True) v3 rs)∧Aside0 (Below w.heap.size w wr))
    case atStart=>exact ⟨0,[],rfl,⟨by omega⟩,H,HT,HB⟩
    case round=>
      clear H HT HB;obtain ⟨i,rs,rfl,HK,HL,HT,HB⟩:=hrel;by_cases hi:i < l0.length
      · obtain ⟨k1,hk1⟩:∃ k1,gk=k1+1:=⟨gk - 1,by have:=HK.out;omega⟩
        subst hk1;have hd0:decide (0≤(i:Int))=true:=decide_eq_true (by omega);have hd1:decide (i < l0.length)=true:=decide_eq_true hi;have hl:=HL.out;rw [qu_drop l0 i hi] at hl;simp only [quO] at hl;obtain ⟨k,hidx,hl⟩:=Option.bind_eq_some_iff.1 hl
        have hlim:rs.length < 1000:=by
          by_cases hx:rs.length < 1000
          · exact hx
          · rw [if_neg hx] at hl;cases hl
        rw [if_pos hlim] at hl;have HL2:=qA hl;have HIDX:=qA hidx;have HLIM:=qA hlim;obtain ⟨ad,ead,hcell⟩:=Kd.at_int (Kd.C_below HR0.out HB.out) (i:Int) (by omega) (by omega);subst ead;rw [Int.toNat_natCast] at hcell;generalize rd l0 (i:Int)=x at hcell HIDX HL2;obtain ⟨At,ct,et⟩:=Kd.S_slice HT.out;subst et;clear hl hidx hlim HL
        go_upto_region 6 with (first
          |(go_at_call 117;(refine (IndexFunc_rows 118 #[.pointer (some ⟨wr.heap.size,0,none⟩)] eg (lastLt x) (fun W=>W.heap[wr.heap.size]? =some (.cells #[.int .i64 x] 3 (0,0))) (fun W W' h_ hb_=>(hb_.block _ (lt_of_block h_)).trans h_) (queue1_tells x wr.heap.size) At ct rs k _ (Kd.C_alloc (Kd.S_reads' HT.out).2.2 _) (by have:=HLIM.out;omega) HIDX.out (blk_new _ _)).mono ?_);rintro e w6 ⟨rfl,hb⟩;have HB6:=qA hb;clear hb))
        have n0_:=qA (Kd.S_below (Kd.S_alloc (Kd.S_elderB HT.out wr.heap.size (Nat.le_refl _)) _) HB6.out);have hbx:wr.heap.size < w6.heap.size:=Nat.lt_of_lt_of_le (by simp) HB6.out.size;have n1_:=qA (below_step (below_alloc HB.out _) HB6.out);have q1:=ch_cell ((HB6.out.block _ (lt_of_block (blk_new wr (.cells #[.int .i64 x] 3)))).trans (blk_new wr (.cells #[.int .i64 x] 3)));have HBOX:=qA ((HB6.out.block _ (lt_of_block (blk_new wr (.cells #[.int .i64 x] 3)))).trans (blk_new wr (.cells #[.int .i64 x] 3)));clear HT HB HB6 hcell;have HT:=n0_;have HB:=n1_;clear n0_ n1_;have E1:=qA (show wrap64 ((i:Int)+1)=((i+1:Nat):Int) by have:=HLL.out;have:=HK.out;unfold wrap64;omega);by_cases hk:k < 0
        · have hkd:decide (k < 0)=true:=decide_eq_true hk;have hl:=HL2.out;rw [if_pos hk] at hl;have m0_:=qA (Kd.S_mono (ok':=fun _=>True) HT.out (fun _ _=>trivial));clear HT;have HT:=m0_;clear m0_ hbx
          obtain ⟨ye,hye⟩:∃ ye:List Int,ye=[x]:=⟨_,rfl⟩
          rw [← hye] at hl
          obtain ⟨rs2,hrs2⟩:∃ rs2,rs2=rs++[ye]:=⟨_,rfl⟩
          rw [← hrs2] at hl;have HL3:=qA hl;have HYE:=qA hye;have HRS2:=qA hrs2;clear hl hye hk HL2 hrs2
          go_wp2_with (first
            |((with_reducible refine gate_dst (N:=21) rfl ?_);refine Kd.R_lit (Kd.int .i64) _ 3 ?hg (N:=21) ?hd (xs:=[x]) (inner:=[.int .i64 x]) (ok:=fun _=>True) (okp:=fun _=>True) ?hr ?hp (fun _ hk=>hk) trivial (Below.refl _ _) (Nat.le_refl _) (by simp) ?_;(case hd=>rfl);(case hg=>rfl);(case hr=>first|(go_simp;done)|(go_simp;rfl));(case hp=>exact (Reps.one rfl (Reps.none _ _)));intro v160 w15 ho16 hb hg_ hnew_;(rw [← HYE.out] at ho16);have n0_:=qA (Kd.S_elder' (by (with_reducible repeat (first|apply Kd.S_alloc|apply Kd.S_drewN|apply Kd.S_drew));exact HT.out) (Kd.R_base ho16) hb);have n1_:=qA (Kd.R_lower ho16 (below_size (by repeat (first|(with_reducible first|exact HB.out|apply below_alloc|apply pw_below_drewN|apply below_drew1)|exact HB.out))));have n2_:=qA (below_step (by repeat (first|(with_reducible first|exact HB.out|apply below_alloc|apply pw_below_drewN|apply below_drew1)|exact HB.out)) hb);clear HT HB;have HT:=n0_;have HE:=n1_;have HB:=n2_;clear n0_ n1_ n2_;clear hb ho16 hg_ hnew_;obtain ⟨Ao18,co18,eo18⟩:=Kd.R_slice HE.out;subst eo18)
            |((with_reducible refine gate_builtin (b:=.append) (xs:= #[.tmp 19,.tmp 22]) rfl ?_);at_builtin;refine Kd.S_append (Kd.slice 3 (Kd.int .i64)) (w0:=w) w.heap.size rfl (.tmp 19) (.tmp 22) 32 36 (.slice none 0 0) 24 rfl Tryz.underlying32 info36 rfl (by decide) (by omega) (.slice At rs.length ct) rs ye [.slice Ao18 ye.length co18] (fun _=>True) (fun k_=>some k_=(.slice Ao18 ye.length co18:Value).ownBlock) rfl rfl ?aP ?aK ?aF ?aO ?aB ?aS ?aL ?_;(case aK=>exact (fun k_ hk_=>(Kd.R_apart' HE.out (Kd.S_typed HT.out) (by decide)).1 k_ hk_.symm));(case aP=>exact Kd.M_row (Kd.R_mono (Kd.R_tight rfl (Kd.R_apart' HE.out (Kd.S_typed HT.out) (by decide))) (fun _ h_=>h_)));(case aB=>exact (by repeat (first|(with_reducible first|exact HB.out|apply below_alloc|apply pw_below_drewN|apply below_drew1)|exact HB.out)));(case aF=>exact (fun _ _=>trivial));(case aO=>exact (by (with_reducible repeat (first|apply Kd.S_alloc|apply Kd.S_drewN|apply Kd.S_drew));exact Kd.S_mono HT.out (fun k_ hk=>⟨hk.1,fun e_=>hk.2 e_⟩)));(case aS=>exact (below_size (by repeat (first|(with_reducible first|exact HB.out|apply below_alloc|apply pw_below_drewN|apply below_drew1)|exact HB.out))));(case aL=>have:=HLIM.out;omega);intro v163 w17 ho hb hg hat;rw [← HRS2.out] at ho;have HT2:=qA ho;have HB2:=qA hb;clear ho hb hg hat))
          go_roundg k1
          case measure=>omega
          case rel=>exact ⟨i+1,rs2,by first|rfl|rw [E1.out],⟨by have:=HK.out;omega⟩,HL3,HT2,HB2⟩
        · have hkd:decide (k < 0)=false:=decide_eq_false hk;have hl:=HL2.out;rw [if_neg hk] at hl
          have hcnd:k < (rs.length:Int)∧(rs.getD k.toNat []).length < 1000:=by
            by_cases h0:k < (rs.length:Int)∧(rs.getD k.toNat []).length < 1000
            · exact h0
            · rw [if_neg h0] at hl;cases hl
          rw [if_pos hcnd] at hl;have pj:=eq_true (show 0≤k by omega);have qj:=eq_true hcnd.1;have hj1:decide (0≤k)=true:=decide_eq_true (by omega);have hj2:decide (k < (rs.length:Int))=true:=decide_eq_true hcnd.1;have HLE:=qA hcnd.2;have HL3:=qA hl;have hpos:0 < rs.length:=by have:=hcnd.1;omega
          clear hl hk HL2 hcnd
          go_upto_region 8 with fail
          have n0_:=qA (Kd.S_drew HT.out);have n1_:=qA (below_drew1 HB.out);clear HT HB;have HT:=n0_;have HB:=n1_;clear n0_ n1_;obtain ⟨go,co,eo,gb,gl,cl,hg0⟩:=Kd.S_form HT.out hpos;cases eo;have GB:=qA gb;clear gb gl hg0 cl hpos;obtain ⟨oki,ce,hcl,hM,hcc,hfr,hoki,hH⟩:=Kd.S_elem HT.out [] k (of_eq_true pj) (of_eq_true qj);obtain ⟨ve,rfl,ge⟩:=hM;obtain ⟨Ae,cap,rfl⟩:=Kd.R_slice ge;have hx0:=hcc 0 _ rfl;rw [Nat.add_zero,show (Kd.slice 3 (Kd.int .i64)).sz=1 from rfl,Nat.mul_one] at hx0
          obtain ⟨el,hel⟩:∃ el,el=rs.getD k.toNat []:=⟨_,rfl⟩
          rw [← hel] at ge hx0 hH hcc;have HEL:=qA hel;have UU:=qA ge;have HH:=qA hH;have HN:=qA (Kd.S_reads' HT.out).1
          obtain ⟨nw,hnw⟩:∃ nw,nw=el++[x]:=⟨_,rfl⟩
          have HNW:=qA hnw;have HQ1:=qA (show w6.drew.cell? ⟨wr.heap.size,0,none⟩=some (.int .i64 x) from q1);have HOKI:=qA hoki;clear ge hH hoki hcc hfr hcl hel hnw
          (try simp only [add_plain] at hx0)
          have HBX:=qA (show wr.heap.size < w6.drew.heap.size from hbx);refine start_ (n:=11) (S:=fun w'=>w'.cell? ⟨go,k.toNat,none⟩=some (.slice Ae el.length cap)∧w'.cell? ⟨wr.heap.size,0,none⟩=some (.int .i64 x)) (ds:=[10]) #[false,false,false,false,false,false,false,false,false,false,false] (by kernel_rfl) rfl rfl ⟨hx0,HQ1.out⟩ (fun hHeld=>?_);refine with_tabW qu_tab8 qu_bits8 (fun HT_ HW_=>?_);clear HBOX q1 HQ1 hbx;generalize w6.drew=w19 at HT HB HH UU HBX hx0 hHeld ⊢;refine pU 0 (some 24) rfl rfl ?_;refine pU 1 (some 25) rfl rfl ?_;refine pU 2 (some 26) rfl rfl ?_;refine pU 3 (some 27) rfl rfl ?_;refine pU 4 (some 28) rfl rfl ?_;refine tK2 5 (some 29) rfl rfl ?_ hHeld;refine tK2 6 (some 30) rfl rfl ?_ hHeld;refine one_ (i:=7) (N:=some 31) #[true,true,true,true,true,true,true,true,false,false,false] rfl rfl (one_of HT_.out (by kernel_rfl)) (by decide) (fun K hK=>?_);refine value_ (w1:=?_) (v:=?_) (by rfl) rfl ?_ ?_;rotate_left 2
          · go_simp
            constructor
            · rfl
            · rfl
          refine hK.out _ _ ⟨(World.cell?_alloc_lt _ _ _ (World.block_lt_of_cell? _ _ (hHeld.1))).trans (hHeld.1),(World.cell?_alloc_lt _ _ _ (World.block_lt_of_cell? _ _ (hHeld.2))).trans (hHeld.2)⟩ (fun hHeld=>?_);clear hK K;refine norm_ (a':=?_) ?_ ?_;rotate_left
          · show Act.put _ (some 31) _=_
            simp only [Act.put,List.setIfInBounds_toArray,List.set_cons_zero,List.set_cons_succ,i64_w,i32_w];rfl
          refine one_ (i:=8) (N:=some 32) #[true,true,true,true,true,true,true,true,true,false,false] rfl rfl (one_of HT_.out (by kernel_rfl)) (by decide) (fun K hK=>?_);refine Kd.R_append_step (Kd.int .i64) (w0:=w) w.heap.size (by rfl) (.tmp 29) (.tmp 31) 36 3 (.int .i64 0) 8 rfl Tryz.underlying36 info3 rfl (by decide) (by omega) (.slice Ae el.length cap) el x [.int .i64 x] (fun k_=>oki k_∨((fun k_=>True∧k_≠wr.heap.size)) k_∧w19.heap.size≤k_) (fun _=>False) rfl rfl ?aP (fun _ hk=>hk.elim) ?aF ?aO ?aB ?aS ?aL ?_
          (case aP=>exact rfl)
          (case aB=>exact (by repeat (first|(with_reducible first|exact HB.out|apply below_alloc|apply pw_below_drewN|apply below_drew1)|exact HB.out)))
          (case aF=>exact (fun k_ hk=>.inr ⟨⟨trivial,by have:=HBX.out;omega⟩,hk⟩))
          (case aO=>exact (by (with_reducible repeat (first|apply Kd.R_alloc|apply Kd.R_drewN|apply Kd.R_drew));exact Kd.R_mono UU.out (fun _ hk=>.inl hk)))
          (case aS=>exact (below_size (by repeat (first|(with_reducible first|exact HB.out|apply below_alloc|apply pw_below_drewN|apply below_drew1)|exact HB.out))))
          (case aL=>have:=HLE.out;rw [← HEL.out] at this;omega)
          intro v171 w21 ho hb hg hat;have HS0_:=cell_grown hg (cell_unalloc hHeld.1 (show go < w19.heap.size from Kd.S_lt HT.out _ rfl)) (fun e_=>(HOKI.out _ (UU.out.1 _ e_.symm)).2 rfl);have HS1_:=cell_grown hg (cell_unalloc hHeld.2 (show wr.heap.size < w19.heap.size from HBX.out)) (fun e_=>(HOKI.out _ (UU.out.1 _ e_.symm)).1.2 rfl);rw [← HNW.out] at ho;have n0_:=qA (hb);have n1_:=qA (Kd.H_grown (Kd.H_widen (by repeat (first|exact HH.out|refine Kd.H_alloc ?_ _|refine Kd.H_drewN ?_ _|refine Kd.H_drew ?_))) hg (fun k_ e_=>.inl (UU.out.1 k_ e_)));have n2_:=qA (ho);clear HB HH HT UU;have HB:=n0_;have HH:=n1_;have HU2:=n2_;clear n0_ n1_ n2_ ho hb hg hat;obtain ⟨Ao,cn,eo⟩:=Kd.R_slice HU2.out;subst eo;obtain ⟨_,_,hraw,_,_,hcc,_⟩:=Kd.H_raw HH.out (of_eq_true pj) (of_eq_true qj);obtain ⟨_,hfr⟩:=Kd.H_at HH.out (of_eq_true pj) (of_eq_true qj);have hx22:=hcc 0 _ rfl;have hf22:=hfr 0
          (try simp only [Nat.add_zero] at hx22 hf22)
          (try rw [show (Kd.slice 3 (Kd.int .i64)).sz=1 from rfl,Nat.mul_one] at hx22)
          (try rw [show (Kd.slice 3 (Kd.int .i64)).sz=1 from rfl,Nat.mul_one] at hf22)
          have hp:=Kd.S_seg0 HH.out (of_eq_true pj) (of_eq_true qj) (seg:=[.slice Ao nw.length cn]) (j:=0) (show 1≤1 from by decide) (x':=nw) (Kd.M_row HU2.out) (fun _ hk=>hk)
          (try simp only [show (Kd.slice 3 (Kd.int .i64)).sz=1 from rfl,Nat.mul_one,Nat.add_zero] at hp)
          have HP:=qA hp.1;clear hcc hfr hp hraw;refine hK.out _ _ ⟨HS0_,HS1_⟩ (fun hHeld=>?_);clear hK K;refine norm_ (a':=?_) ?_ ?_;rotate_left
          · show Act.put _ (some 32) _=_
            simp only [Act.put,List.setIfInBounds_toArray,List.set_cons_zero,List.set_cons_succ,i64_w,i32_w];rfl
          refine pU 9 (some 33) rfl rfl ?_;refine last_ (i:=10) (N:=none) #[true,true,true,true,true,true,true,true,true,true,true] rfl rfl (one_of HT_.out (by kernel_rfl)) (by decide) (fun K hK=>?_);refine skip_ (w1:=?_) (by rfl) rfl ?_ ?_;rotate_left
          · go_simp;rfl
          refine hK.out _ _ ?_;clear hK K;refine done_ (done_of HT_.out (by kernel_rfl)) ?_
          try go_wp2
          go_roundg k1
          case measure=>omega
          case rel=>exact ⟨i+1,rs.set k.toNat nw,by first|rfl|rw [E1.out],⟨by have:=HK.out;omega⟩,⟨by have h_:=HL3.out;rw [← HEL.out,← HNW.out] at h_;exact h_⟩,⟨Kd.S_mono HP.out (fun _ _=>trivial)⟩,⟨below_set HB.out GB.out⟩⟩
      · obtain rfl:i=l0.length:=by have:=HK.out;omega
        have hd1:decide ((l0.length:Int) < (l0.length:Int))=false:=decide_eq_false (by omega);have hl:=HL.out;rw [List.drop_length] at hl;obtain rfl:=Option.some.inj hl;clear hl
        go_wp2
        go_ret;exact ⟨_,rfl,HT.out,HB.out⟩
  · rw [if_neg hll] at h;cases h
/-- Whether so many queues are needed. -/
def quB (a1:Int) (l:List Int):Option Bool:=(queuesF l).bind fun q=>some ((q.length:Int)==a1)
def QuS (b:Nat) (a1:Int) (W:World):Prop:=W.heap[b]? =some (.cells #[.int .i64 a1] 3 (0,0))
set_option maxHeartbeats 8000000 in
set_option maxRecDepth 100000 in
theorem queues_tells (b:Nat) (a1:Int):TellsB Tryz.prog 65 #[.pointer (some ⟨b,0,none⟩)] (quB a1) (QuS b a1):=by
  intro W A c l r hC hc hF hW
  show Calls Tryz.prog 65 #[.slice A l.length c,.pointer (some ⟨b,0,none⟩)] W _
  obtain ⟨q,hq,hF⟩:=Option.bind_eq_some_iff.1 hF;obtain rfl:=Option.some.inj hF;have HW:=qA hW;have HC:=qA hC;have HLC:=qA hc;have HQ:=qA hq;clear hF hC hc hq hW;go_enter Tryz.func65,Tryz.ntmps65
  go_upto_region 1 with fail
  go_region_held3 (fun W_=>W_.cell? ⟨b,0,none⟩=some (.int .i64 a1)∧Below W.heap.size W W_) (first|exact ⟨ch_cell HW.out,below_drew (Below.refl _ _)⟩|exact ⟨(hb7.cell (World.block_lt_of_cell? _ _ (And.left (by assumption)))).trans (And.left (by assumption)),below_step (And.right (by assumption)) hb7⟩|go_keep)
    (first
    |(go_at_call 66;(refine (queues_calls A c l q _ (Kd.C_below HC.out (And.right (by assumption))) HLC.out HQ.out).mono ?_);rintro e w7 ⟨v7,rfl,ho7,hb7⟩;obtain ⟨A7,c7,e7⟩:=Kd.S_slice ho7;subst e7;clear ho7))
  all_goals go_wp2
  all_goals go_ret
  all_goals exact ⟨rfl,And.right (by assumption)⟩
def impl_ChanceQueues.f (k:Nat) (a0 a1:Int):Option (Int × Int × Bool):=(impl_isDrawn.f a1).bind fun b=>drawnF k (chF (quB a1)) a0 b
set_option maxHeartbeats 8000000 in
set_option maxRecDepth 100000 in
theorem impl_ChanceQueues.calls (k:Nat) (a0 a1:Int) (r1_0 r1_1:Int) (r2:Bool) (w:World) (h:impl_ChanceQueues.f k a0 a1=some (r1_0,r1_1,r2)):
    Calls Tryz.prog 17 #[.int .i64 a0,.int .i64 a1] w fun e w'=>e=.returned (.tuple #[.agg #[.int .i64 r1_0,.int .i64 r1_1],.bool r2])∧Below w.heap.size w w':=by
  have hu:=Tryz.underlying25;obtain ⟨t,ht,h⟩:=Option.bind_eq_some_iff.1 h;have HT:=qA ht;have H:=qA h;have z1:=blk_alloc (blk_new w (.cells #[.int .i64 a1] 3)) (.cells #[.int .i64 0,.int .i64 0] 25);have z2:=blk_new (w.alloc (.cells #[.int .i64 a1] 3)) (.cells #[.int .i64 0,.int .i64 0] 25);rw [World.size_alloc] at z2;have HK:=qA z1;have HX:=qA z2;have q1:=ch_cell z1;have HB0:=qA (below_alloc (below_alloc (Below.refl w.heap.size w) (.cells #[.int .i64 a1] 3)) (.cells #[.int .i64 0,.int .i64 0] 25));have eg:∀ args w,(callFunc 65 args).run Tryz.prog w=.ok (.enter 65 args) w:=enters_of Tryz.func65 (by kernel_rfl) rfl;clear h ht z1 z2;go_enter Tryz.func17,Tryz.ntmps17
  go_wp2_with (first
    |(go_at_call 64;(with_reducible refine (impl_isDrawn.calls a1 t _ HT.out).mono ?_);rintro e w5 ⟨rfl,hd⟩;have hb:=Drawn0.below hd;have HB5:=qA (below_step HB0.out hb);have HK5:=qA ((hb.block _ (lt_of_block HK.out)).trans HK.out);have HX5:=qA ((hb.block _ (lt_of_block HX.out)).trans HX.out);clear hd hb)
    |(go_at_call 45;(refine (drawnChance_calls k 65 #[.pointer (some ⟨w.heap.size,0,none⟩)] eg (quB a1) (QuS w.heap.size a1) (fun W W' h1 h2=>(h2.block _ (lt_of_block h1)).trans h1) (queues_tells w.heap.size a1) a0 t r1_0 r1_1 r2 _ H.out HK5.out).mono ?_);rintro e w7 ⟨rfl,hb⟩;have HB7:=qA (below_step HB5.out hb);have HX7:=qA ((hb.block _ (lt_of_block HX5.out)).trans HX5.out);have c0:=(mn_cell_of_two HX7.out).1;have c1:=(mn_cell_of_two HX7.out).2;have f0:=(mn_free_of_two HX7.out).1;have f1:=(mn_free_of_two HX7.out).2;clear hb))
  have g0:=blk_put HX7.out 0 (.int .i64 r1_0) rfl;have g1:=blk_put g0 1 (.int .i64 r1_1) rfl;refine bodyPost_ret (v:=.tuple #[.agg #[.int .i64 r1_0,.int .i64 r1_1],.bool r2]) ?_ rfl ?_
  · exact results_list (rs:=[.cell 4 25,.tmp 5]) rfl (by simp) (.cell (w.heap.size+1) 25 #[.int .i64 r1_0,.int .i64 r1_1] (0,0) _ rfl g1 hu rfl (by kernel_rfl) (.tmp .nil))
  · exact ⟨rfl,below_set (below_set HB7.out (by show w.heap.size≤w.heap.size+1;omega)) (by show w.heap.size≤w.heap.size+1;omega)⟩
/-- A value of one cell. -/
abbrev OC:={v:Value // v.oneCell'=true}
def ocK:Kd OC:=Kd.scalar Subtype.val (fun x=>x.2)
def ocN:OC:=⟨.slice none 0 0,rfl⟩
def rdC (l:List OC) (i:Nat):OC:=rdOf ocN l (i:Int)
theorem rdC_drop (l:List OC) (i:Nat) (h:i < l.length):l.drop i=rdC l i :: l.drop (i+1):=by
  unfold rdC rdOf;rw [Int.toNat_natCast,List.drop_eq_getElem_cons h];simp [h]
/-- What the cells of rows lead to, none of it in the block b. -/
def RwI (W:World) (b:Nat) (vs:List OC) (l:List (List Int)):Prop:=∀ j,j < l.length→∃ A c,(rdC vs j).val=.slice A (rdL l j).length c∧(Kd.int .i64).R 3 W 0 (fun k=>k≠b) (.slice A (rdL l j).length c) (rdL l j)
theorem RwI.below {W W':World} {b:Nat} {vs:List OC} {l:List (List Int)} (h:RwI W b vs l) (hb:Below W.heap.size W W'):RwI W' b vs l:=fun j hj=>by
  obtain ⟨A,c,e,hR⟩:=h j hj;exact ⟨A,c,e,Kd.R_below hR hb⟩
theorem RwI.set_ {W:World} {b:Nat} {vs:List OC} {l:List (List Int)} (h:RwI W b vs l) (q:Nat) (v:Value):RwI (W.setCell ⟨b,q,none⟩ v) b vs l:=fun j hj=>by
  obtain ⟨A,c,e,hR⟩:=h j hj;exact ⟨A,c,e,Kd.R_far hR (fun _ hk=>hk) v⟩
theorem rows_open {W:World} {base e b c:Nat} {ok:Nat→Prop} {l:List (List Int)} (h:Kd.S (Kd.slice 3 (Kd.int .i64)) e W base ok (.slice (some ⟨b,0,none⟩) l.length c) l):∃ vs:List OC,vs.length=l.length∧ocK.R e W base (fun _=>True) (.slice (some ⟨b,0,none⟩) l.length c) vs∧RwI W b vs l:=by
  obtain ⟨h0,inner,ho,hr⟩:=Kd.S_R h
  have hl:inner.length=l.length:=by
    have h1:=hr.1;rw [show (Kd.slice 3 (Kd.int .i64)).sz=1 from rfl,Nat.mul_one] at h1;exact h1
  have hcell:∀ j,j < l.length→∃ v,inner[j]? =some v∧(Kd.int .i64).R 3 W base (fun k=>k≠b) v (rdL l j):=by
    intro j hj;obtain ⟨v,hv,hR⟩:=hr.2 j (rdL l j) (by unfold rdL;simp [hj]);have h2:(inner.drop (j*1)).take 1=[v]:=hv;refine ⟨v,?_,Kd.R_mono hR (fun k hk he=>hk.2 (by rw [he];simp [Value.ownBlock]))⟩;have h3:=congrArg (fun t:List Value=>t[0]?) h2;rw [Nat.mul_one] at h3
    simpa using h3
  have hone:∀ v ∈ inner,v.oneCell'=true:=by
    intro v hv;obtain ⟨j,hj,rfl⟩:=List.getElem_of_mem hv;obtain ⟨v2,e2,hR⟩:=hcell j (by omega);rw [List.getElem?_eq_getElem hj] at e2;rw [Option.some.inj e2];exact (Kd.R_val hR).2
  obtain ⟨vs,hvs⟩:∃ vs:List OC,vs=inner.map fun v=>if hv:v.oneCell'=true then (⟨v,hv⟩:OC) else ocN:=⟨_,rfl⟩
  have henc:encs Subtype.val vs=inner:=by
    rw [hvs];unfold encs;rw [List.map_map]
    conv=>rhs;rw [← List.map_id inner]
    refine List.map_congr_left (fun v hv=>?_);simp [hone v hv]
  have hvl:vs.length=l.length:=by rw [hvs,List.length_map,hl]
  refine ⟨vs,hvl,?_,?_⟩
  · have h4:W.ownsRow base e 1 (.slice (some ⟨b,0,none⟩) l.length c) vs.length (encs Subtype.val vs):=by rw [henc,hvl];exact ho
    exact Kd.R_of_own h4 (fun _ _=>trivial)
  · intro j hj;obtain ⟨v,ev,hR⟩:=hcell j hj;obtain ⟨A,c2,rfl⟩:=Kd.R_slice hR;refine ⟨A,c2,?_,Kd.R_lower hR (Nat.zero_le _)⟩;have h5:=congrArg (fun t:List Value=>t[j]?) henc;simp only [encs,List.getElem?_map] at h5;rw [ev] at h5;obtain ⟨u,hu,hu2⟩:=Option.map_eq_some_iff.1 h5;unfold rdC rdOf;rw [Int.toNat_natCast,List.getD_eq_getElem?_getD,hu];exact hu2
/-- How many rows are kept. -/
def cntK (F:List Int→Option Bool):List (List Int)→Option Nat
  |[]=>some 0
  |x :: t=>(F x).bind fun b=>(cntK F t).bind fun r=>some (if b=true then r else r+1)
theorem cntK_idx (F:List Int→Option Bool):∀ (l:List (List Int)) (i:Int) (r:Nat),cntK F l=some r→(idxO F l i=some (-1)∧r=l.length)∨∃ k:Nat,k < l.length∧idxO F l i=some (i+(k:Int))∧∃ r1,cntK F (l.drop (k+1))=some r1∧r=k+r1
  |[],i,r,h=>by
    obtain rfl:=Option.some.inj h;exact .inl ⟨rfl,rfl⟩
  |x :: t,i,r,h=>by
    obtain ⟨b,hb,h⟩:=Option.bind_eq_some_iff.1 h;obtain ⟨q,hq,h⟩:=Option.bind_eq_some_iff.1 h;obtain rfl:=Option.some.inj h
    cases b with
    |true=>exact .inr ⟨0,by simp,by simp [idxO,hb],q,hq,by simp⟩
    |false=>
      rcases cntK_idx F t (i+1) q hq with ⟨e,er⟩|⟨k,hk,e,r1,h1,er⟩
      · exact .inl ⟨by simp [idxO,hb,e],by simp [er]⟩
      · exact .inr ⟨k+1,by simpa using hk,by simp only [idxO,hb,Option.bind_some];rw [if_neg (by decide),e];congr 1;omega,r1,h1,by simp [er];omega⟩
/-- A row's first part stays where what lies behind it is written. -/
theorem own_clear {w:World} {base e b n c i:Nat} {xs vs:List Value} (h:w.ownsRow base e 1 (.slice (some ⟨b,0,none⟩) n c) n xs) (hi:i≤n) (hv:i+vs.length≤n):
    w.grownBy (w.setCells b i vs) (some b):=by
  obtain ⟨s1,s2,s3,s4⟩:=setCells_same b vs i w;exact ⟨s1,s2,s3,by rw [s4];exact Nat.le_refl _,fun k _ hk=>setCells_far vs i k (fun e=>hk (by rw [e]))⟩
set_option maxHeartbeats 8000000 in
set_option maxRecDepth 100000 in
theorem DeleteFunc_rows (g:Nat) (lb:Array Value) (eg:∀ args w,(callFunc g args).run Tryz.prog w=.ok (.enter g args) w) (F:List Int→Option Bool) (S:World→Prop)
    (hS:∀ W W':World,S W→Below W.heap.size W W'→S W') (ht:TellsB Tryz.prog g lb F S) (b c:Nat) (hSs:∀ (W:World) (q:Nat) (v:Value),S W→S (W.setCell ⟨b,q,none⟩ v)) (l:List (List Int)) (r:Nat) (w0 w:World) (ok:Nat→Prop)
    (ho:Kd.S (Kd.slice 3 (Kd.int .i64)) 36 w w0.heap.size ok (.slice (some ⟨b,0,none⟩) l.length c) l) (hB:Below w0.heap.size w0 w) (hlim:l.length≤1000000) (hF:cntK F l=some r) (h0:S w):
    Calls Tryz.prog 126 #[.slice (some ⟨b,0,none⟩) l.length c,.func (.func g) #[] lb] w fun e w'=>e=.returned (.slice (some ⟨b,0,none⟩) (r:Nat) c)∧Below w0.heap.size w0 w':=by
  obtain ⟨_,hnc,hC⟩:=Kd.S_reads' ho;have hbase:w0.heap.size≤b:=Kd.S_base ho b rfl;obtain ⟨vs,hvl,hR0,hRW⟩:=rows_open ho;have HO:=qA hR0;have HRW:=qA hRW;have HVL:=qA hvl;have HB:=qA hB;have HS:=qA hS;have HSs:=qA hSs;have HT:=qA ht;have H0:=qA h0;have HM:=qA hlim;have HNC:=qA hnc;have HBA:=qA hbase;have hspec:=cntK_idx F l 0 r hF;have HC:=qA hC;clear ho hB hS hSs ht h0 hlim hnc hC hbase hR0 hRW hvl hF
  rcases hspec with ⟨e,er⟩|⟨k,hk,e,r1,hr1,er⟩
  · subst er;have HI2:=qA (IndexFunc_rows g lb eg F S HS.out HT.out (some ⟨b,0,none⟩) c l (-1) w HC.out HM.out e H0.out);clear e;go_enter Tryz.func126,Tryz.ntmps126
    go_wp2_with (go_at_call 117;(with_reducible refine HI2.out.mono ?_);rintro e w6 ⟨rfl,hb⟩;have HB2:=qA (below_step HB.out hb);clear hb)
    go_ret;exact ⟨rfl,HB2.out⟩
  · rw [Int.zero_add] at e;have HI2:=qA (IndexFunc_rows g lb eg F S HS.out HT.out (some ⟨b,0,none⟩) c l (k:Int) w HC.out HM.out e H0.out);have HF0:=qA hr1;have HER:=qA er;have HK0:=qA hk;have hne:((k:Int)== -1)=false:=beq_eq_false_iff_ne.2 (by omega);have E0:=qA (show wrap64 ((k:Int)+1)=((k+1:Nat):Int) by have:=HM.out;unfold wrap64;omega);clear e er hr1 hk
    obtain ⟨n,hn⟩:∃ n:Nat,n=l.length:=⟨_,rfl⟩
    have HN:=qA hn;rw [← hn] at HI2 HO HNC HK0 HM HVL ⊢;clear hn HC;go_enter Tryz.func126,Tryz.ntmps126
    go_wp2_with (go_at_call 117;(with_reducible refine HI2.out.mono ?_);rintro e w6 ⟨rfl,hb⟩;have HB2:=qA (below_step HB.out hb);have HO2:=qA (Kd.R_below HO.out hb);have HRW2:=qA (HRW.out.below hb);have HW2:=qA (HS.out _ _ H0.out hb);clear hb)
    go_loopg [5,6,7] n (fun kq v5 v6 v7 w'=>∃ (i j q:Nat) (xs:List OC),v5=.int .i64 (i:Int)∧v6=.int .i64 (j:Int)∧Aside0 (j≤n∧n≤j+kq)∧Aside0 (i < j)∧Aside0 (xs.length=n)∧Aside0 (cntK F (l.drop j)=some q∧r=i+q)∧Aside0 (xs.drop j=vs.drop j)∧Aside0 (ocK.R 36 w' w0.heap.size (fun _=>True) (.slice (some ⟨b,0,none⟩) n c) xs)∧Aside0 (RwI w' b vs l)∧Aside0 (Below w0.heap.size w0 w')∧Aside0 (S w'))
    case atStart=>exact ⟨k,k+1,r1,vs,rfl,by rw [E0.out],⟨by have:=HK0.out;omega⟩,⟨by omega⟩,HVL,⟨HF0.out,HER.out⟩,⟨rfl⟩,HO2,HRW2,HB2,HW2⟩
    case round=>
      clear HO HB H0 HO2 HB2 HW2 HF0 E0 HK0 hne HI2 HRW HRW2 HER;obtain ⟨i,j,q,xs,rfl,rfl,HJ,HIJ,HX,HQ,HD1,HO,HRW,HB,HW⟩:=hrel;have hxl:=HX.out;have hr:=HO.out;rw [← hxl] at hr;by_cases hj:j < n
      · obtain ⟨k1,hk1⟩:∃ k1,gk=k1+1:=⟨gk - 1,by have:=HJ.out;omega⟩
        subst hk1;have hi:i < n:=by have:=HIJ.out;omega
        have hjl:j < l.length:=by have:=HN.out;omega
        obtain ⟨cj,fj⟩:=Kd.R_cell ocN hr (j:Int) (by omega) (by omega);obtain ⟨ci,fi⟩:=Kd.R_cell ocN hr (i:Int) (by omega) (by omega);rw [Int.toNat_natCast] at cj fj ci fi
        have hxj:rdOf ocN xs (j:Int)=rdC vs j∧xs.drop (j+1)=vs.drop (j+1):=by
          have h1:=rdC_drop xs j (by omega);have h2:=rdC_drop vs j (by have:=HVL.out;omega);rw [HD1.out,h2] at h1;injection h1 with h1 h3
          exact ⟨h1.symm,h3.symm⟩
        rw [hxj.1] at cj;have HDJ:=qA hxj.2;obtain ⟨Aj,c2,ej,hRj⟩:=HRW.out j hjl;rw [ej] at cj;have EJ:=qA ej;have hq:=HQ.out.1;rw [rdL_drop l j hjl] at hq;obtain ⟨bq,hbq,hq⟩:=Option.bind_eq_some_iff.1 hq;obtain ⟨q1,hq1,hq⟩:=Option.bind_eq_some_iff.1 hq;have HQ1:=qA hq1;have HQQ:=qA (Option.some.inj hq);have HRJ:=qA (Kd.R_reads' hRj);have HBQ:=qA hbq;have HQR:=qA HQ.out.2;have ej1:=qA (show wrap64 ((j:Int)+1)=((j+1:Nat):Int) by have:=HM.out;unfold wrap64;omega);have ei1:=qA (show wrap64 ((i:Int)+1)=((i+1:Nat):Int) by have:=HM.out;unfold wrap64;omega);have d0:decide (0≤(j:Int))=true:=decide_eq_true (by omega);have d1:decide (0≤(i:Int))=true:=decide_eq_true (by omega);clear hxj hr hxl hq hq1 hbq hRj ej HQ;generalize rdL l j=x at cj HRJ HBQ EJ;generalize (rdOf ocN xs (i:Int)).val=old at ci
        cases bq with
        |true=>
          go_wp2_with (go_at_fn g;(refine (HT.out.at_ _ Aj c2 x true HRJ.out.2.2 HRJ.out.2.1 HBQ.out HW.out).mono ?_);rintro e w7 ⟨rfl,hb⟩;have HB2:=qA (below_step HB.out hb);have HO2:=qA (Kd.R_below HO.out hb);have HRW2:=qA (HRW.out.below hb);have HW2:=qA (HS.out _ _ HW.out hb);clear hb)
          go_roundg k1
          case measure=>omega
          case rel=>exact ⟨i,j+1,q1,xs,rfl,by rw [ej1.out],⟨by have:=HJ.out;omega⟩,⟨by have:=HIJ.out;omega⟩,HX,⟨HQ1.out,by have:=HQQ.out;have:=HQR.out;simp at*;omega⟩,HDJ,HO2,HRW2,HB2,HW2⟩
        |false=>
          go_wp2_with (go_at_fn g;(refine (HT.out.at_ _ Aj c2 x false HRJ.out.2.2 HRJ.out.2.1 HBQ.out HW.out).mono ?_);rintro e w7 ⟨rfl,hb⟩;have HB2:=qA (below_step HB.out hb);have HO2:=qA (Kd.R_below HO.out hb);have HRW2:=qA (HRW.out.below hb);have HW2:=qA (HS.out _ _ HW.out hb);have ci2:=(Kd.R_cell ocN (show ocK.R 36 w7 w0.heap.size (fun _=>True) (.slice (some ⟨b,0,none⟩) xs.length c) xs by rw [HX.out];exact HO2.out) (i:Int) (by omega) (by rw [HX.out];have:=HIJ.out;have:=HJ.out;omega));rw [Int.toNat_natCast] at ci2;have ci3:=ci2.1;have fi3:=ci2.2;clear ci2 hb)
          go_roundg k1
          case measure=>omega
          case rel=>
            have hput:=Kd.R_put (show ocK.R 36 w7 w0.heap.size (fun _=>True) (.slice (some ⟨b,0,none⟩) xs.length c) xs by rw [HX.out];exact HO2.out) (i:Int) (rdC vs j);rw [Int.toNat_natCast,HX.out,EJ.out] at hput;refine ⟨i+1,j+1,q1,xs.set i (rdC vs j),by rw [ei1.out],by rw [ej1.out],⟨by have:=HJ.out;omega⟩,⟨by have:=HIJ.out;omega⟩,⟨by rw [List.length_set];exact HX.out⟩,⟨HQ1.out,by have:=HQQ.out;have:=HQR.out;simp at*;omega⟩,⟨?_⟩,⟨hput.1⟩,⟨HRW2.out.set_ _ _⟩,⟨below_set HB2.out HBA.out⟩,⟨HSs.out _ _ _ HW2.out⟩⟩;rw [List.drop_set_of_lt (by have:=HIJ.out;omega)];exact HDJ.out
      · obtain rfl:j=n:=by have:=HJ.out;omega
        have hin:i < j:=HIJ.out;have hq:=HQ.out.1;rw [HN.out,List.drop_length] at hq;have hri:r=i:=by have:=Option.some.inj hq;have:=HQ.out.2;omega
        have hzs:∀ w:World,(zeroValue 36).run Tryz.prog w=.ok (.slice none 0 0) w:=fun _=>by kernel_rfl
        have hcl:∀ ty,(Builtin.clear_ #[32] ty #[.slice (some ⟨b,i,none⟩) (j - i) (c - i)]).run Tryz.prog wr=.ok (.tuple #[]) (wr.setCells b i (List.replicate (j - i) (.slice none 0 0))):=fun ty=>
          Lib.run_clear_slice wr _ _ ty _ Tryz.underlying32 hzs rfl rfl b i _ _ (by omega)
            (fun q hq=>by
              have hc:=(Kd.R_cell ocN hr ((i+q:Nat):Int) (by omega) (by omega)).1;rw [Int.toNat_natCast] at hc
              rw [hc];rfl)
            (fun q hq=>by
              have hc:=(Kd.R_cell ocN hr ((i+q:Nat):Int) (by omega) (by omega)).2;rw [Int.toNat_natCast] at hc
              exact hc)
        have hic:i≤c:=by have:=HNC.out;omega
        have HCL:Aside0 (wr.grownBy (wr.setCells b i (List.replicate (j - i) (.slice none 0 0))) (some b)):=⟨by
          have h_:=Kd.own_of_R hr;rw [hxl] at h_
          exact own_clear h_ (by omega) (by rw [List.length_replicate];omega)⟩
        clear hr hxl hq;have hci:¬ c=i:=by have:=HNC.out;omega
        go_wp2
        go_ret;rw [hri];exact ⟨rfl,HB.out.grown HCL.out HB.out.size (fun k hk=>by injection hk with hk;subst hk;exact HBA.out)⟩
def dlF (k:Nat) (pats:List (List Int)) (l:List Int):Option Bool:=(avF k pats l).bind fun b=>some (!b)
set_option maxHeartbeats 8000000 in
set_option maxRecDepth 100000 in
theorem avoiding1_tells (k:Nat) (w0:World) (b:Nat) (Ap:Option Addr) (cp:Nat) (pats:List (List Int)) (hCp:Kd.C (Kd.slice 3 (Kd.int .i64)) w0 Ap pats.length pats):TellsB Tryz.prog 128 #[.pointer (some ⟨b,0,none⟩)] (dlF k pats) (PaS w0 b Ap cp pats.length):=by
  intro W A c l r hC hc hF hW
  show Calls Tryz.prog 128 #[.slice A l.length c,.pointer (some ⟨b,0,none⟩)] W _
  obtain ⟨b2,hb2,hF⟩:=Option.bind_eq_some_iff.1 hF;obtain rfl:=Option.some.inj hF;have q1:=ch_cell hW.1;have HC:=qA (avoids_calls k A c l Ap cp pats b2 W hC hc (Kd.C_below hCp hW.2) hb2);clear hC hc hF hW hb2;go_enter Tryz.func128,Tryz.ntmps128
  go_wp2_with (go_at_call 72;(refine HC.out.mono ?_);rintro e w7 ⟨rfl,hb⟩;have HB7:=qA hb;clear hb)
  go_ret;exact ⟨rfl,HB7.out⟩
/-- How many orders of 1..n avoid all patterns. -/
def agF (k:Nat) (n:Int) (pats:List (List Int)):Option Nat:=(impl_allOrders.f k n).bind fun l=>if 0 < l.length∧l.length≤1000000 then cntK (dlF k pats) l else none
set_option maxHeartbeats 8000000 in
set_option maxRecDepth 100000 in
theorem avoiding_calls (k:Nat) (n:Int) (Ap:Option Addr) (cp:Nat) (pats:List (List Int)) (r:Nat) (w:World) (hCp:Kd.C (Kd.slice 3 (Kd.int .i64)) w Ap pats.length pats) (h:agF k n pats=some r):
    Calls Tryz.prog 76 #[.int .i64 n,.slice Ap pats.length cp] w fun e w'=>(∃ A c,e=.returned (.slice A r c))∧Below w.heap.size w w':=by
  obtain ⟨l,hl,h⟩:=Option.bind_eq_some_iff.1 h
  split at h
  case isFalse=>cases h
  rename_i hlen
  have HL:=qA hl;have HD:=qA h;have HN:=qA hlen;have HC:=qA hCp;clear hl h hlen hCp
  have HZ:Aside0 (PaS w w.heap.size Ap cp pats.length (w.alloc (.cells #[.slice Ap pats.length cp] 32))):=⟨⟨blk_new w _,below_alloc (Below.refl _ _) _⟩⟩
  have q1:=ch_cell HZ.out.1
  have HS0:Aside0 ((w.alloc (.cells #[.slice Ap pats.length cp] 32)).heap.size=w.heap.size+1):=⟨World.size_alloc _ _⟩
  have HBA:Aside0 (Below w.heap.size w (w.alloc (.cells #[.slice Ap pats.length cp] 32))):=⟨below_alloc (Below.refl _ _) _⟩
  have eg:∀ args w,(callFunc 128 args).run Tryz.prog w=.ok (.enter 128 args) w:=enters_of Tryz.func128 (by kernel_rfl) rfl;go_enter Tryz.func76,Tryz.ntmps76
  go_wp2_with (first
    |(go_at_call 127;(refine (impl_allOrders.calls k n l (w.alloc (.cells #[.slice Ap pats.length cp] 32)) HL.out).mono ?_);rintro e w6 ⟨v6,rfl,ho,hb⟩;obtain ⟨g6,c6,e6,hg6,_⟩:=Kd.S_form ho HN.out.1;subst e6;rw [HS0.out] at hg6;have HO:=qA ho;have HB:=qA hb;have HG:=qA hg6;clear ho hb hg6)
    |(go_at_call 126;(refine (DeleteFunc_rows 128 #[.pointer (some ⟨w.heap.size,0,none⟩)] eg (dlF k pats) (PaS w w.heap.size Ap cp pats.length) PaS.below (avoiding1_tells k w w.heap.size Ap cp pats HC.out) g6 c6 (fun W q v h=>⟨(Below.heap_setCell W ⟨g6,q,none⟩ v _ (by have:=HG.out;show ¬ w.heap.size=g6;omega)).trans h.1,below_set h.2 (by have:=HG.out;omega)⟩) l r (w.alloc (.cells #[.slice Ap pats.length cp] 32)) w6 _ HO.out HB.out HN.out.2 HD.out (PaS.below _ _ HZ.out HB.out)).mono ?_);rintro e w7 ⟨rfl,hb⟩;have HB7:=qA hb;clear hb))
  go_ret;exact ⟨⟨_,_,rfl⟩,below_step HBA.out HB7.out⟩
def impl_CountAvoiding.f (k:Nat) (a0:Int) (pats:List (List Int)):Option (Int × Bool):=(impl_isSize.f a0).bind fun s=>if s=true then (arF k pats).bind fun t=>if t=true then (agF k a0 pats).bind fun r=>some ((r:Int),true) else some (0,false) else some (0,false)
set_option maxHeartbeats 8000000 in
set_option maxRecDepth 100000 in
theorem impl_CountAvoiding.calls (k:Nat) (a0:Int) (A1:Option Addr) (c1:Nat) (l1:List (List Int)) (r1:Int) (r2:Bool) (w:World) (hr1:Kd.C (Kd.slice 3 (Kd.int .i64)) w A1 l1.length l1) (hc1:l1.length≤c1) (h:impl_CountAvoiding.f k a0 l1=some (r1,r2)):
    Calls Tryz.prog 24 #[.int .i64 a0,.slice A1 l1.length c1] w fun e w'=>e=.returned (.tuple #[.int .i64 r1,.bool r2])∧Below w.heap.size w w':=by
  obtain ⟨s,hs,h⟩:=Option.bind_eq_some_iff.1 h;have HS:=qA hs;have HC:=qA hr1;clear hs hr1
  cases s with
  |false=>
    obtain ⟨rfl,rfl⟩:=Prod.mk.inj (Option.some.inj h);clear h;go_enter Tryz.func24,Tryz.ntmps24
    go_wp2_with (go_at_call 75;(refine (impl_isSize.calls a0 false _ HS.out).mono ?_);rintro e w5 ⟨rfl,hd⟩;have HB5:=qA (Drawn0.below hd);clear hd)
    go_ret2;exact ⟨rfl,HB5.out⟩
  |true=>
    rw [if_pos rfl] at h;obtain ⟨t,ht,h⟩:=Option.bind_eq_some_iff.1 h;have HT:=qA ht;clear ht
    cases t with
    |false=>
      obtain ⟨rfl,rfl⟩:=Prod.mk.inj (Option.some.inj h);clear h;go_enter Tryz.func24,Tryz.ntmps24
      go_wp2_with (first
        |(go_at_call 75;(refine (impl_isSize.calls a0 true _ HS.out).mono ?_);rintro e w5 ⟨rfl,hd⟩;have HB5:=qA (Drawn0.below hd);clear hd)
        |(go_at_call 70;(refine (arePatterns_calls k A1 c1 l1 false _ (Kd.C_below HC.out HB5.out) HT.out).mono ?_);rintro e w6 ⟨rfl,hb⟩;have HB6:=qA (below_step HB5.out hb);clear hb))
      go_ret2;exact ⟨rfl,HB6.out⟩
    |true=>
      rw [if_pos rfl] at h;obtain ⟨q,hq,h⟩:=Option.bind_eq_some_iff.1 h;obtain ⟨rfl,rfl⟩:=Prod.mk.inj (Option.some.inj h);have HQ:=qA hq;clear h hq;go_enter Tryz.func24,Tryz.ntmps24
      go_wp2_with (first
        |(go_at_call 75;(refine (impl_isSize.calls a0 true _ HS.out).mono ?_);rintro e w5 ⟨rfl,hd⟩;have HB5:=qA (Drawn0.below hd);clear hd)
        |(go_at_call 70;(refine (arePatterns_calls k A1 c1 l1 true _ (Kd.C_below HC.out HB5.out) HT.out).mono ?_);rintro e w6 ⟨rfl,hb⟩;have HB6:=qA (below_step HB5.out hb);clear hb)
        |(go_at_call 76;(refine (avoiding_calls k a0 A1 c1 l1 q _ (Kd.C_below HC.out HB6.out) HQ.out).mono ?_);rintro e w7 ⟨⟨A7,c7,rfl⟩,hb⟩;have HB7:=qA (below_step HB6.out hb);clear hb))
      go_ret2;exact ⟨rfl,HB7.out⟩

end Go.Proofs.YtaoecbpfocillaaGreat.Xdz
