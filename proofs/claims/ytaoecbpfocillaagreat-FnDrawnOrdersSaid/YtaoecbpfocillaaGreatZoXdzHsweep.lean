/- impl.sweepWord comes to the word 'lw' tells: its loops and its closure, walked by hand. -/
import Derived.Test.YtaoecbpfocillaaGreatZoXdz0
import Derived.Outline
namespace Go.Proofs.YtaoecbpfocillaaGreat.Xdz
open Go.RowKit Go.Proofs.YtaoecbpfocillaaGreatW.PrintWords Go.Proofs.YtaoecbpfocillaaGreatW.PrintLast Go.Proofs.YtaoecbpfocillaaGreatW.PrintMore
attribute [local go_sem] max2_int min2_int max_two min_two max_three min_three max_four min_four
set_option linter.unusedVariables false
set_option linter.unusedSimpArgs false

/-! ### what the sweep writes, on lists: the stack with its top first -/
def lwPop (n:Int):List Int→Nat × List Int
  |[]=>(0,[])
  |x :: t=>if x < n then ((lwPop n t).1+1,(lwPop n t).2) else (0,x :: t)
/-- the word behind the numbers that are left, the stack, and what is written -/
def lw (d:Int):List Int→List Int→List Int→List Int
  |[],st,out=>out++List.replicate st.length 79
  |n :: rest,st,out=>
    if ((lwPop n st).2.length:Int)=d then lw d rest (n :: (lwPop n st).2.tail) (out++List.replicate (lwPop n st).1 79++[79]++[73])
    else lw d rest (n :: (lwPop n st).2) (out++List.replicate (lwPop n st).1 79++[73])
theorem lwPop_stay (n:Int) (st:List Int) (h:∀ x t,st=x :: t→¬ x < n):lwPop n st=(0,st):=by
  cases st with
  |nil=>rfl
  |cons x t=>simp only [lwPop,h x t rfl,↓reduceIte]
structure LwInv (w0 w:World) (b5 b6:Nat) (st:List Int) (out:List Int) (A:Option Addr) (c:Nat) (vo:Value):Prop where
  x5:w.heap[b5]? =some (.cells #[.slice A st.length c] 36 (0,0))
  x6:w.heap[b6]? =some (.cells #[vo] 22 (0,0))
  r5:Kd.R (Kd.int .i64) 3 w w0.heap.size (fun _=>True) (.slice A st.length c) st.reverse
  r6:Kd.R (Kd.int .u8) 5 w w0.heap.size (fun _=>True) vo out
  bel:Below w0.heap.size w0 w
  g5:w0.heap.size≤b5
  g6:w0.heap.size≤b6
theorem LwInv.drew {w0 w:World} {b5 b6:Nat} {st out:List Int} {A:Option Addr} {c:Nat} {vo:Value} (h:LwInv w0 w b5 b6 st out A c vo):LwInv w0 w.drew b5 b6 st out A c vo:=
  ⟨h.x5,h.x6,Kd.R_drew h.r5,Kd.R_drew h.r6,below_drew h.bel,h.g5,h.g6⟩
theorem LwInv.drewN {w0 w:World} {b5 b6:Nat} {st out:List Int} {A:Option Addr} {c:Nat} {vo:Value} (h:LwInv w0 w b5 b6 st out A c vo) (n:Nat):LwInv w0 (w.drewN n) b5 b6 st out A c vo:=
  ⟨h.x5,h.x6,Kd.R_drewN h.r5 n,Kd.R_drewN h.r6 n,pw_below_drewN h.bel n,h.g5,h.g6⟩
theorem LwInv.alloc {w0 w:World} {b5 b6:Nat} {st out:List Int} {A:Option Addr} {c:Nat} {vo:Value} (h:LwInv w0 w b5 b6 st out A c vo) (o:Obj):LwInv w0 (w.alloc o) b5 b6 st out A c vo:=
  ⟨blk_alloc h.x5 o,blk_alloc h.x6 o,Kd.R_alloc h.r5 o,Kd.R_alloc h.r6 o,below_alloc h.bel o,h.g5,h.g6⟩
/-- Behind an append to the word's row: what it left is not stored yet. -/
structure LwMid (w0 w:World) (b5 b6:Nat) (st:List Int) (out:List Int) (A:Option Addr) (c:Nat) (vo v1:Value):Prop where
  x5:w.heap[b5]? =some (.cells #[.slice A st.length c] 36 (0,0))
  x6:w.heap[b6]? =some (.cells #[vo] 22 (0,0))
  r5:Kd.R (Kd.int .i64) 3 w w0.heap.size (fun _=>True) (.slice A st.length c) st.reverse
  r6:Kd.R (Kd.int .u8) 5 w w0.heap.size (fun _=>True) v1 out
  bel:Below w0.heap.size w0 w
theorem LwInv.grown {w0 w w1:World} {b5 b6:Nat} {st out out':List Int} {A:Option Addr} {c:Nat} {vo v1:Value} (h:LwInv w0 w b5 b6 st out A c vo) (hg:w.grownBy w1 vo.ownBlock) (ho:Kd.R (Kd.int .u8) 5 w1 w0.heap.size (fun _=>True) v1 out') (hb:Below w0.heap.size w0 w1):LwMid w0 w1 b5 b6 st out' A c vo v1:=
  ⟨blk_grown h.x5 hg (Kd.R_ne h.r6 h.x5 (by decide)),blk_grown h.x6 hg (Kd.R_ne h.r6 h.x6 (by decide)),Kd.R_over' h.r5 (Kd.R_typed h.r6) (by intro q hq;simp only [Kd.int,Kd.scalar,List.mem_singleton] at hq;subst hq;decide) hg,ho,hb⟩
/-- Both stores. -/
theorem LwMid.stored {w0 w:World} {b5 b6:Nat} {st out st':List Int} {A A':Option Addr} {c c':Nat} {vo v1:Value} (h:LwMid w0 w b5 b6 st out A c vo v1) (g5:w0.heap.size≤b5) (g6:w0.heap.size≤b6)
    (hs:Kd.R (Kd.int .i64) 3 w w0.heap.size (fun _=>True) (.slice A' st'.length c') st'.reverse):LwInv w0 ((w.setCell ⟨b5,0,none⟩ (.slice A' st'.length c')).setCell ⟨b6,0,none⟩ v1) b5 b6 st' out A' c' v1:=by
  have n56:b5≠b6:=blk_ne h.x5 h.x6 (by decide);have y5:=blk_put (cs':= #[.slice A' st'.length c']) h.x5 0 (.slice A' st'.length c') rfl;have y6:(w.setCell ⟨b5,0,none⟩ (.slice A' st'.length c')).heap[b6]? =_:=blk_far h.x6 (p:=⟨b5,0,none⟩) (Ne.symm n56) _;have t5:∀ q,q ∈ 3 :: (Kd.int .i64).E→q≠36:=by intro q hq;simp only [Kd.int,Kd.scalar,List.mem_singleton] at hq;subst hq;decide
  have t5':∀ q,q ∈ 3 :: (Kd.int .i64).E→q≠22:=by intro q hq;simp only [Kd.int,Kd.scalar,List.mem_singleton] at hq;subst hq;decide
  have t6:∀ q,q ∈ 5 :: (Kd.int .u8).E→q≠36:=by intro q hq;simp only [Kd.int,Kd.scalar,List.mem_singleton] at hq;subst hq;decide
  have t6':∀ q,q ∈ 5 :: (Kd.int .u8).E→q≠22:=by intro q hq;simp only [Kd.int,Kd.scalar,List.mem_singleton] at hq;subst hq;decide
  exact ⟨blk_far y5 (p:=⟨b6,0,none⟩) n56 _,blk_put y6 0 v1 rfl,Kd.R_set (Kd.R_set hs h.x5 t5 0 _) y6 t5' 0 _,Kd.R_set (Kd.R_set h.r6 h.x5 t6 0 _) y6 t6' 0 _,below_set (below_set h.bel g5) g6,g5,g6⟩
/-- A block of one number reads as a row of one. -/
theorem row_of_one {w:World} {b e:Nat} {k:IntKind} {p:Int} (h:w.heap[b]? =some (.cells #[.int k p] e (0,0))):ReadsRow (fun (x:Int) (cs:List Value)=>cs=[.int k x]) 1 w (some ⟨b,0,none⟩) 1 [p]:=by
  refine ⟨rfl,by omega,fun _=>⟨⟨b,0,none⟩,rfl,?_⟩⟩;intro j q hj
  obtain ⟨rfl,rfl⟩:j=0∧q=p:=by
    cases j with
    |zero=>exact ⟨rfl,by simpa using hj.symm⟩
    |succ j=>simp at hj
  refine ⟨[.int k q],rfl,rfl,?_⟩;intro i u hu
  cases i with
  |zero=>
    simp only [List.getElem?_cons_zero,Option.some.injEq] at hu;subst hu
    simpa [Addr.add] using cell_of_one h
  |succ i=>simp at hu
theorem rd_drop_w (l:List Int) (j:Nat) (h:j < l.length):l.drop j=rd l (j:Int) :: l.drop (j+1):=by
  unfold rd;rw [Int.toNat_natCast,List.drop_eq_getElem_cons h];simp [h]
theorem lw_start {w w10 w11:World} {A10 A11:Option Addr} {c10 c11:Nat} (h10:Kd.R (Kd.int .i64) 3 w10 w.heap.size (fun _=>True) (.slice A10 0 c10) []) (b10:Below w.heap.size w w10) (h11:Kd.R (Kd.int .u8) 5 w11 w10.heap.size (fun _=>True) (.slice A11 0 c11) []) (b11:Below w10.heap.size w10 w11):
    LwInv w ((w11.alloc (.cells #[.slice A10 0 c10] 36)).alloc (.cells #[.slice A11 0 c11] 22)) w11.heap.size (w11.heap.size+1) [] [] A10 c10 (.slice A11 0 c11):=by
  have hs:=b10.size;have hs1:=b11.size;refine ⟨blk_alloc (blk_new w11 _) _,?_,?_,?_,?_,by omega,by omega⟩
  · have:=blk_new (w11.alloc (.cells #[.slice A10 0 c10] 36)) (.cells #[.slice A11 0 c11] 22)
    rwa [World.size_alloc] at this
  · exact Kd.R_alloc (Kd.R_alloc (Kd.R_below h10 b11) _) _
  · exact Kd.R_alloc (Kd.R_alloc (Kd.R_lower h11 hs) _) _
  · exact below_alloc (below_alloc (below_step b10 b11) _) _
/-- Behind an append to the stack's row: what it left is not stored yet. -/
structure LwUp (w0 w:World) (b5 b6:Nat) (st:List Int) (out:List Int) (A:Option Addr) (c:Nat) (vo:Value) (n:Int) (A3:Option Addr) (c3:Nat):Prop where
  x5:w.heap[b5]? =some (.cells #[.slice A st.length c] 36 (0,0))
  x6:w.heap[b6]? =some (.cells #[vo] 22 (0,0))
  r5:Kd.R (Kd.int .i64) 3 w w0.heap.size (fun _=>True) (.slice A3 (st.length+1) c3) (st.reverse++[n])
  r6:Kd.R (Kd.int .u8) 5 w w0.heap.size (fun _=>True) vo out
  bel:Below w0.heap.size w0 w
  g5:w0.heap.size≤b5
  g6:w0.heap.size≤b6
theorem LwUp.alloc {w0 w:World} {b5 b6:Nat} {st out:List Int} {A A3:Option Addr} {c c3:Nat} {vo:Value} {n:Int} (h:LwUp w0 w b5 b6 st out A c vo n A3 c3) (o:Obj):LwUp w0 (w.alloc o) b5 b6 st out A c vo n A3 c3:=
  ⟨blk_alloc h.x5 o,blk_alloc h.x6 o,Kd.R_alloc h.r5 o,Kd.R_alloc h.r6 o,below_alloc h.bel o,h.g5,h.g6⟩
theorem LwInv.up {w0 w w1:World} {b5 b6:Nat} {st out:List Int} {A A3:Option Addr} {c c3:Nat} {vo:Value} {n:Int} (h:LwInv w0 w b5 b6 st out A c vo) (hg:w.grownBy w1 (Value.slice A st.length c).ownBlock) (ho:Kd.R (Kd.int .i64) 3 w1 w0.heap.size (fun _=>True) (.slice A3 (st.length+1) c3) (st.reverse++[n])) (hb:Below w0.heap.size w0 w1):LwUp w0 w1 b5 b6 st out A c vo n A3 c3:=
  ⟨blk_grown h.x5 hg (Kd.R_ne h.r5 h.x5 (by decide)),blk_grown h.x6 hg (Kd.R_ne h.r5 h.x6 (by decide)),ho,Kd.R_over' h.r6 (Kd.R_typed h.r5) (by intro q hq;simp only [Kd.int,Kd.scalar,List.mem_singleton] at hq;subst hq;decide) hg,hb,h.g5,h.g6⟩
/-- Behind both appends. -/
structure LwTwo (w0 w:World) (b5 b6:Nat) (st:List Int) (out:List Int) (A:Option Addr) (c:Nat) (vo:Value) (n:Int) (A3:Option Addr) (c3:Nat) (v1:Value):Prop where
  x5:w.heap[b5]? =some (.cells #[.slice A st.length c] 36 (0,0))
  x6:w.heap[b6]? =some (.cells #[vo] 22 (0,0))
  r5:Kd.R (Kd.int .i64) 3 w w0.heap.size (fun _=>True) (.slice A3 (st.length+1) c3) (st.reverse++[n])
  r6:Kd.R (Kd.int .u8) 5 w w0.heap.size (fun _=>True) v1 out
  bel:Below w0.heap.size w0 w
  g5:w0.heap.size≤b5
  g6:w0.heap.size≤b6
theorem LwUp.two {w0 w w1:World} {b5 b6:Nat} {st out out':List Int} {A A3:Option Addr} {c c3:Nat} {vo v1:Value} {n:Int} (h:LwUp w0 w b5 b6 st out A c vo n A3 c3) (hg:w.grownBy w1 vo.ownBlock) (ho:Kd.R (Kd.int .u8) 5 w1 w0.heap.size (fun _=>True) v1 out') (hb:Below w0.heap.size w0 w1):LwTwo w0 w1 b5 b6 st out' A c vo n A3 c3 v1:=
  ⟨blk_grown h.x5 hg (Kd.R_ne h.r6 h.x5 (by decide)),blk_grown h.x6 hg (Kd.R_ne h.r6 h.x6 (by decide)),Kd.R_over' h.r5 (Kd.R_typed h.r6) (by intro q hq;simp only [Kd.int,Kd.scalar,List.mem_singleton] at hq;subst hq;decide) hg,ho,hb,h.g5,h.g6⟩
theorem LwTwo.stored {w0 w:World} {b5 b6:Nat} {st out:List Int} {A A3:Option Addr} {c c3:Nat} {vo v1:Value} {n:Int} (h:LwTwo w0 w b5 b6 st out A c vo n A3 c3 v1):LwInv w0 ((w.setCell ⟨b5,0,none⟩ (.slice A3 (st.length+1) c3)).setCell ⟨b6,0,none⟩ v1) b5 b6 (n :: st) out A3 c3 v1:=by
  have n56:b5≠b6:=blk_ne h.x5 h.x6 (by decide);have y5:=blk_put (cs':= #[.slice A3 (st.length+1) c3]) h.x5 0 (.slice A3 (st.length+1) c3) rfl;have y6:(w.setCell ⟨b5,0,none⟩ (.slice A3 (st.length+1) c3)).heap[b6]? =_:=blk_far h.x6 (p:=⟨b5,0,none⟩) (Ne.symm n56) _;have t5:∀ q,q ∈ 3 :: (Kd.int .i64).E→q≠36:=by intro q hq;simp only [Kd.int,Kd.scalar,List.mem_singleton] at hq;subst hq;decide
  have t5':∀ q,q ∈ 3 :: (Kd.int .i64).E→q≠22:=by intro q hq;simp only [Kd.int,Kd.scalar,List.mem_singleton] at hq;subst hq;decide
  have t6:∀ q,q ∈ 5 :: (Kd.int .u8).E→q≠36:=by intro q hq;simp only [Kd.int,Kd.scalar,List.mem_singleton] at hq;subst hq;decide
  have t6':∀ q,q ∈ 5 :: (Kd.int .u8).E→q≠22:=by intro q hq;simp only [Kd.int,Kd.scalar,List.mem_singleton] at hq;subst hq;decide
  refine ⟨blk_far y5 (p:=⟨b6,0,none⟩) n56 _,blk_put y6 0 v1 rfl,?_,Kd.R_set (Kd.R_set h.r6 h.x5 t6 0 _) y6 t6' 0 _,below_set (below_set h.bel h.g5) h.g6,h.g5,h.g6⟩;rw [List.reverse_cons];exact Kd.R_set (Kd.R_set h.r5 h.x5 t5 0 _) y6 t5' 0 _

def impl_sweepWord.f (l0:List Int):Option ByteArray:=if l0.length≤1000∧(∀ x ∈ l0,x < 8) then some (strOfNums (lw 1000000 l0 [] [])) else none
theorem sw_info8:(Tryz.prog.info? 5).map (fun i=>(i.zero,i.size,i.bytes))=some (some (.int .u8 0),1,1):=by kernel_rfl
theorem lwPop_len (n:Int):∀ st:List Int,(lwPop n st).1+(lwPop n st).2.length=st.length
  |[]=>rfl
  |x :: t=>by
    simp only [lwPop]
    split
    · have:=lwPop_len n t;simp only [List.length_cons];omega
    · simp
theorem lwPop_step (n x:Int) (t out:List Int) (h:x < n):(lwPop n (x :: t)).2=(lwPop n t).2∧out++List.replicate (lwPop n (x :: t)).1 79=(out++[79])++List.replicate (lwPop n t).1 79:=by
  simp only [lwPop,h,↓reduceIte];refine ⟨trivial,?_⟩;rw [List.replicate_succ];simp

set_option maxHeartbeats 16000000 in
set_option maxRecDepth 100000 in
theorem sweepWord_pop (w0 w:World) (b5 b6:Nat) (below:Int) (st out:List Int) (A:Option Addr) (c:Nat) (vo:Value) (h:LwInv w0 w b5 b6 st out A c vo) (hl:out.length+st.length < 140737488355328):
    Calls Tryz.prog 160 #[.int .i64 below,.pointer (some ⟨b5,0,none⟩),.pointer (some ⟨b6,0,none⟩)] w fun e w'=>e=.returned (.tuple #[])∧∃ v1,LwInv w0 w' b5 b6 (lwPop below st).2 (out++List.replicate (lwPop below st).1 79) A c v1:=by
  have HL0:=qA hl;have HI:=qA h
  obtain ⟨S,hS⟩:∃ S,S=(lwPop below st).2:=⟨_,rfl⟩
  obtain ⟨O,hO⟩:∃ O,O=out++List.replicate (lwPop below st).1 79:=⟨_,rfl⟩
  rw [← hS,← hO];have HSS:=qA hS;have HOO:=qA hO;clear h hl hS hO;obtain ⟨i0,hi0,_,hsz0,_⟩:=info_parts info3;have HI0:=qA hi0;clear hi0 hsz0;go_enter Tryz.func160,Tryz.ntmps160
  go_wp2
  go_loopg [] st.length (fun kq w'=>∃ (s2 o2:List Int) (v2:Value),Aside0 (s2.length=kq)∧Aside0 (LwInv w0 w' b5 b6 s2 o2 A c v2)∧Aside0 (S=(lwPop below s2).2∧O=o2++List.replicate (lwPop below s2).1 79)∧Aside0 (o2.length+s2.length < 140737488355328))
  case atStart=>exact ⟨st,out,vo,⟨rfl⟩,HI,⟨HSS.out,HOO.out⟩,HL0⟩
  case round=>
    clear HI HSS HOO HL0;obtain ⟨s2,o2,v2,HK,HI,HE,HL⟩:=hrel;have c5:=cell_of_one HI.out.x5;have c6:=cell_of_one HI.out.x6
    cases s2 with
    |nil=>
      go_wp2_with (fail)
      go_end0
      exact ⟨rfl,_,by rw [HE.out.1,HE.out.2];simpa [lwPop] using HI.out⟩
    |cons x t=>
      have hr5:=Kd.R_reads' HI.out.r5
      obtain ⟨n,hn⟩:∃ n:Nat,n=t.length:=⟨_,rfl⟩
      have hn1:(x :: t).length=n+1:=by rw [hn];rfl
      have hnb:n+1≤9223372036854775807:=by have:=hr5.2.2.2.1;simp only [List.length_reverse,List.length_cons] at this;omega
      obtain ⟨ad2,ead2,hx2⟩:=Kd.at_int hr5.2.2 (n:Int) (by omega) (by simp;omega);subst ead2;rw [show rd (x :: t).reverse (n:Int)=x by unfold rd;rw [hn];simp,Int.toNat_natCast] at hx2;rw [hn1] at c5;have HN:=qA hn;have HN1:=qA hn1;have hcut:=cut_to (P:=Tryz.prog) 36 3 .i64 Tryz.underlying36 HI0.out (some ad2) (n+1) c (n:Int) (by omega) (by omega) (by rw [← hn1];simpa using hr5.2.1)
      obtain ⟨k1,hk1⟩:∃ k1,gk=k1+1:=⟨gk - 1,by have:=HK.out;simp at this;omega⟩
      subst hk1;have ew:wrap64 (n:Int)=(n:Int):=by unfold wrap64;omega
      clear hn hn1 hr5;by_cases hxn:x < below
      · have d2:decide (x < below)=true:=decide_eq_true hxn;have HX:=qA hxn;clear hxn
        go_wp2_with (fail)
        have H0:=qA HI.out.drew;clear HI;refine start_ (n:=10) (S:=fun w'=>w'.cell? ⟨b5,0,none⟩=some (.slice (some ad2) (n+1) c)∧w'.cell? ⟨b6,0,none⟩=some v2) (ds:=[8,9]) #[false,false,false,false,false,false,false,false,false,false] (by kernel_rfl) rfl rfl ⟨c5,c6⟩ (fun hHeld=>?_);generalize wr.drew=wd at H0 c5 c6 hHeld ⊢;refine take_ (i:=0) (N:=some 17) (v:=?_) (a':=?_) #[true,false,false,false,false,false,false,false,false,false] rfl rfl (by kernel_rfl) (fun _ _ _ h=>h) (Or.inl ⟨by rfl,?_⟩) hHeld ?_ ?_;rotate_left
        · rintro w' ⟨s0,s1⟩;go_simp
          with_reducible rfl
        rotate_left
        · simp only [Act.put,List.setIfInBounds_toArray,List.set_cons_zero,List.set_cons_succ,i64_w,i32_w];rfl
        refine take_ (i:=1) (N:=some 18) (v:=?_) (a':=?_) #[true,true,false,false,false,false,false,false,false,false] rfl rfl (by kernel_rfl) (fun _ _ _ h=>h) (Or.inl ⟨by rfl,?_⟩) hHeld ?_ ?_;rotate_left
        · rintro w' ⟨s0,s1⟩;go_simp
          with_reducible rfl
        rotate_left
        · simp only [Act.put,List.setIfInBounds_toArray,List.set_cons_zero,List.set_cons_succ,i64_w,i32_w];rfl
        refine pK 2 (some 19) rfl rfl ?_;refine pK 3 (some 20) rfl rfl ?_;refine pK 4 (some 21) rfl rfl ?_;refine take_ (i:=5) (N:=some 22) (v:=?_) (a':=?_) #[true,true,true,true,true,true,false,false,false,false] rfl rfl (by kernel_rfl) (fun _ _ _ h=>h) (Or.inl ⟨by rfl,?_⟩) hHeld ?_ ?_;rotate_left
        · rintro w' ⟨s0,s1⟩;go_simp
          with_reducible rfl
        rotate_left
        · simp only [Act.put,List.setIfInBounds_toArray,List.set_cons_zero,List.set_cons_succ,i64_w,i32_w];rfl
        refine one_ (i:=6) (N:=some 23) #[true,true,true,true,true,true,true,false,false,false] rfl rfl (by kernel_rfl) (by decide) (fun K hK=>?_);refine value_ (w1:=?_) (v:=?_) (by rfl) rfl ?_ ?_;rotate_left 2
        · go_simp
          constructor
          · rfl
          · rfl
        refine hK.out _ _ ⟨(by rw [← HN1.out];exact cell_of_one (H0.out.alloc _).x5),(cell_of_one (H0.out.alloc _).x6)⟩ (fun hHeld=>?_);clear hK K;refine norm_ (a':=?_) ?_ ?_;rotate_left
        · show Act.put _ (some 23) _=_
          simp only [Act.put,List.setIfInBounds_toArray,List.set_cons_zero,List.set_cons_succ,i64_w,i32_w];rfl
        refine one_ (i:=7) (N:=some 24) #[true,true,true,true,true,true,true,true,false,false] rfl rfl (by kernel_rfl) (by decide) (fun K hK=>?_);refine Kd.R_append_step (Kd.int .u8) (w0:=w0) w0.heap.size (by rfl) (.tmp 22) (.tmp 23) 22 5 (.int .u8 0) 1 rfl Tryz.underlying22 sw_info8 rfl (by decide) (by omega) v2 o2 79 [.int .u8 79] (fun _=>True) (fun _=>False) rfl rfl ?aP (fun _ hk=>hk.elim) ?aF ?aO ?aB ?aS ?aL ?_
        (case aP=>exact rfl)
        (case aB=>exact H0.out.bel)
        (case aF=>exact fun _ _=>trivial)
        (case aO=>exact H0.out.r6)
        (case aS=>exact H0.out.bel.size)
        (case aL=>have:=HL.out;omega)
        intro v9 w9 ho hb hg hat;obtain ⟨A9,c9,e9⟩:=Kd.R_slice ho;subst e9;have H2:=qA (H0.out.grown hg ho hb);have f5:=free_of_one H2.out.x5;have f6:=free_of_one H2.out.x6;have n56:b5≠b6:=blk_ne H2.out.x5 H2.out.x6 (by decide);clear ho hb hg hat;refine hK.out _ _ ⟨(by rw [← HN1.out];exact cell_of_one H2.out.x5),(cell_of_one H2.out.x6)⟩ (fun hHeld=>?_);clear hK K;refine norm_ (a':=?_) ?_ ?_;rotate_left
        · show Act.put _ (some 24) _=_
          simp only [Act.put,List.setIfInBounds_toArray,List.set_cons_zero,List.set_cons_succ,i64_w,i32_w];rfl
        refine last_ (i:=8) (N:=none) #[true,true,true,true,true,true,true,true,true,false] rfl rfl (by kernel_rfl) (by decide) (fun K hK=>?_);refine skip_ (w1:=?_) (by rfl) rfl ?_ ?_;rotate_left
        · go_simp;rfl
        have z6:=blk_far H2.out.x6 (p:=⟨b5,0,none⟩) (Ne.symm n56) (.slice (some ad2) n c);have c6b:=cell_of_one z6;have f6b:=free_of_one z6;clear z6;refine hK.out _ _ ?_;clear hK K;refine last_ (i:=9) (N:=none) #[true,true,true,true,true,true,true,true,true,true] rfl rfl (by kernel_rfl) (by decide) (fun K hK=>?_);refine skip_ (w1:=?_) (by rfl) rfl ?_ ?_;rotate_left
        · go_simp;rfl
        refine hK.out _ _ ?_;clear hK K;refine done_ (by kernel_rfl) ?_

        go_wp2_with (fail)
        go_roundg k1
        case measure=>omega
        case rel=>
          have hs:=lwPop_step below x t o2 HX.out;refine ⟨t,o2++[79],.slice A9 (o2.length+1) c9,⟨by have:=HK.out;simp at this;omega⟩,⟨?_⟩,⟨by rw [HE.out.1,hs.1],by rw [HE.out.2,hs.2]⟩,⟨by have:=HL.out;simp at this ⊢;omega⟩⟩;rw [HN.out,show o2.length+1=(o2++[(79:Int)]).length by simp];exact H2.out.stored H0.out.g5 H0.out.g6 (by simpa using Kd.R_take (m:=t.length) H2.out.r5 (by simp))
      · have d2:decide (x < below)=false:=decide_eq_false hxn;have hp:=lwPop_stay below (x :: t) (fun y u hy=>by injection hy with a b;rw [← a];exact hxn);have HP:=qA hp;clear hxn hp
        go_wp2_with (fail)
        go_end0
        exact ⟨rfl,_,by rw [HE.out.1,HE.out.2,HP.out];simpa using HI.out⟩

theorem lwPop_all:∀ (st:List Int),(∀ x ∈ st,x < 8)→lwPop 8 st=(st.length,[])
  |[],_=>rfl
  |x :: t,h=>by
    simp only [lwPop,h x List.mem_cons_self,↓reduceIte,lwPop_all t (fun y hy=>h y (List.mem_cons_of_mem _ hy)),List.length_cons]
theorem lwPop_mem (n:Int):∀ (st:List Int),∀ x ∈ (lwPop n st).2,x ∈ st
  |[],x,h=>h
  |y :: t,x,h=>by
    simp only [lwPop] at h
    split at h
    · exact List.mem_cons_of_mem _ (lwPop_mem n t x h)
    · exact h
set_option maxHeartbeats 16000000 in
set_option maxRecDepth 100000 in
theorem impl_sweepWord.calls (A0:Option Addr) (c0:Nat) (l0:List Int) (r:ByteArray) (w:World) (hr0:Kd.C (Kd.int .i64) w A0 l0.length l0) (hc0:l0.length≤c0) (h:impl_sweepWord.f l0=some r):
    Calls Tryz.prog 139 #[.slice A0 l0.length c0] w fun e w'=>e=.returned (.string r)∧Below w.heap.size w w':=by
  unfold impl_sweepWord.f at h
  split at h
  · rename_i hcnd
    obtain ⟨hl,hall⟩:=hcnd;obtain rfl:=Option.some.inj h;clear h
    obtain ⟨R,hR⟩:∃ R,R=lw 1000000 l0 [] []:=⟨_,rfl⟩
    rw [← hR];have HR0:=qA hr0;have HC0:=qA hc0;have HALL:=qA hall;have HR:=qA hR;clear hr0 hc0 hall hR;go_enter Tryz.func139,Tryz.ntmps139
    go_wp2_with (first
      |((with_reducible refine gate_dst (N:=8) rfl ?_);refine Kd.R_lit (Kd.int .i64) _ 3 ?hg (N:=8) ?hd (xs:=([]:List Int)) (inner:=[]) (ok:=fun _=>True) (okp:=fun _=>True) ?hr ?hp (fun _ hk=>hk) trivial (Below.refl _ _) (Nat.le_refl _) (by simp) ?_;(case hd=>rfl);(case hg=>rfl);(case hr=>first|(go_simp;done)|(go_simp;rfl));(case hp=>exact (Reps.none _ _));intro v10 w10 ho10 hb10 hg_ hnew_;obtain ⟨A10,c10,e10⟩:=Kd.R_slice ho10;subst e10;clear hg_ hnew_;have HO10:=qA ho10;have HB10:=qA hb10;clear ho10 hb10)
      |((with_reducible refine gate_dst (N:=9) rfl ?_);refine Kd.R_lit (Kd.int .u8) _ 5 ?hg (N:=9) ?hd (xs:=([]:List Int)) (inner:=[]) (ok:=fun _=>True) (okp:=fun _=>True) ?hr ?hp (fun _ hk=>hk) trivial (Below.refl _ _) (Nat.le_refl _) (by simp) ?_;(case hd=>rfl);(case hg=>rfl);(case hr=>first|(go_simp;done)|(go_simp;rfl));(case hp=>exact (Reps.none _ _));intro v11 w11 ho11 hb11 hg_ hnew_;obtain ⟨A11,c11,e11⟩:=Kd.R_slice ho11;subst e11;clear hg_ hnew_;have HO11:=qA ho11;have HB11:=qA hb11;clear ho11 hb11))
    have HI0:=qA (lw_start HO10.out HB10.out HO11.out HB11.out);clear HO10 HB10 HO11 HB11
    go_loopg [13] l0.length (fun kq v13 w'=>∃ (kk:Nat) (st out:List Int) (A:Option Addr) (c:Nat) (vo:Value),v13=.int .i64 kk∧Aside0 (kk+kq=l0.length)∧Aside0 (LwInv w w' w11.heap.size (w11.heap.size+1) st out A c vo)∧Aside0 (lw 1000000 (l0.drop kk) st out=R)∧Aside0 (out.length+st.length+2*(l0.length - kk)≤2*l0.length)∧Aside0 (∀ x ∈ st,x < 8))
    case atStart=>exact ⟨0,[],[],A10,c10,_,rfl,⟨by omega⟩,HI0,⟨by rw [List.drop_zero];exact HR.out.symm⟩,⟨by simp⟩,⟨by simp⟩⟩
    case round=>
      clear HI0;obtain ⟨kk,st,out,A,c,vo,rfl,HK,HI,HE,HM,H8⟩:=hrel;by_cases hlt:kk < l0.length
      · obtain ⟨n,hn⟩:∃ n,n=rd l0 (kk:Int):=⟨_,rfl⟩
        have HN:=qA hn;obtain ⟨ad,ead,hxn⟩:=Kd.at_int (Kd.C_below HR0.out HI.out.bel) (kk:Int) (by omega) (by omega);subst ead;rw [← hn,Int.toNat_natCast] at hxn;clear hn
        have hn8:n < 8:=by
          rw [HN.out];refine HALL.out _ ?_;unfold rd;rw [Int.toNat_natCast];simp [hlt]
        have HN8:=qA hn8;clear hn8;have hkb:kk < 1000:=by omega
        obtain ⟨k1,hk1⟩:∃ k1,gk=k1+1:=⟨gk - 1,by have:=HK.out;omega⟩
        subst hk1;have d1:decide ((kk:Int) < (l0.length:Int))=true:=decide_eq_true (by omega);have HE1:=qA (show lw 1000000 (n :: l0.drop (kk+1)) st out=R by rw [HN.out,← rd_drop_w l0 kk hlt];exact HE.out);have hpl:=lwPop_len n st
        have HE2:=qA (show lw 1000000 (l0.drop (kk+1)) (n :: (lwPop n st).2) ((out++List.replicate (lwPop n st).1 79)++[73])=R by
          rw [← HE1.out];have hf:¬ (((lwPop n st).2.length:Int)=1000000):=by have:=HM.out;omega
          simp only [lw,hf,↓reduceIte])
        have HM2:=qA (show (out++List.replicate (lwPop n st).1 79).length+(lwPop n st).2.length≤out.length+st.length by simp;omega);have H82:=qA (show ∀ x ∈ (lwPop n st).2,x < 8 from fun x hx=>H8.out x (lwPop_mem n st x hx));have HLB:=qA (show out.length+st.length < 140737488355328 by have:=HM.out;omega);clear hpl HE HE1 H8
        obtain ⟨s4,hs4⟩:∃ s4,s4=(lwPop n st).2:=⟨_,rfl⟩
        obtain ⟨o4,ho4⟩:∃ o4,o4=out++List.replicate (lwPop n st).1 79:=⟨_,rfl⟩
        rw [← hs4,← ho4] at HE2 HM2;rw [← hs4] at H82;have HSO:=qA (And.intro hs4 ho4);clear hs4 ho4
        go_wp2_with ((go_at_call 160;refine (sweepWord_pop w _ w11.heap.size (w11.heap.size+1) n st out A c vo HI.out HLB.out).mono ?_;rintro e wc ⟨rfl,v1,hI⟩;rw [← HSO.out.1,← HSO.out.2] at hI;have HI2:=qA hI;clear hI))
        clear HI
        obtain ⟨A4,hA4⟩:∃ A4,A4=A:=⟨_,rfl⟩
        obtain ⟨c4,hc4⟩:∃ c4,c4=c:=⟨_,rfl⟩
        rw [← hA4,← hc4] at HI2;have HI:=qA HI2.out.drew;clear HI2 hA4 hc4;have hx5:=HI.out.x5;have c5:=cell_of_one hx5;have c6:=cell_of_one HI.out.x6;obtain ⟨Ao,co,eo⟩:=Kd.R_slice HI.out.r6;subst eo;clear hx5;refine start_ (n:=9) (S:=fun w'=>w'.cell? ⟨w11.heap.size,0,none⟩=some (.slice A4 s4.length c4)∧w'.cell? ⟨w11.heap.size+1,0,none⟩=some (.slice Ao o4.length co)) (ds:=[7,8]) #[false,false,false,false,false,false,false,false,false] (by kernel_rfl) rfl rfl ⟨c5,c6⟩ (fun hHeld=>?_);generalize wc.drew=wd at HI c5 c6 hHeld ⊢;refine pK 1 (some 21) rfl rfl ?_;refine take_ (i:=0) (N:=some 20) (v:=?_) (a':=?_) #[true,true,false,false,false,false,false,false,false] rfl rfl (by kernel_rfl) (fun _ _ _ h=>h) (Or.inl ⟨by rfl,?_⟩) hHeld ?_ ?_;rotate_left
        · rintro w' ⟨s0,s1⟩;go_simp
          with_reducible rfl
        rotate_left
        · simp only [Act.put,List.setIfInBounds_toArray,List.set_cons_zero,List.set_cons_succ,i64_w,i32_w];rfl
        refine take_ (i:=4) (N:=some 24) (v:=?_) (a':=?_) #[true,true,false,false,true,false,false,false,false] rfl rfl (by kernel_rfl) (fun _ _ _ h=>h) (Or.inl ⟨by rfl,?_⟩) hHeld ?_ ?_;rotate_left
        · rintro w' ⟨s0,s1⟩;go_simp
          with_reducible rfl
        rotate_left
        · simp only [Act.put,List.setIfInBounds_toArray,List.set_cons_zero,List.set_cons_succ,i64_w,i32_w];rfl
        refine join_ (σ:=Nat × (Option Addr × Nat) × Nat) 3 #[true,true,true,true,true,true,false,false,false] (fun s=>[(22,.slice (some ⟨s.1,0,none⟩) 1 1),(23,.slice s.2.1.1 (s4.length+1) s.2.1.2),(25,.slice (some ⟨s.2.2,0,none⟩) 1 1)]) (fun s w'=>LwUp w w' w11.heap.size (w11.heap.size+1) s4 o4 A4 c4 (.slice Ao o4.length co) n s.2.1.1 s.2.1.2∧w'.heap[s.2.2]? =some (.cells #[.int .u8 73] 5 (0,0))) ?_ ?_;rotate_left
        · intro hCont;refine two_ (i:=2) (j:=5) (Ni:=some 22) (Nj:=some 25) #[true,true,true,false,true,false,false,false,false] #[true,true,false,false,true,true,false,false,false] rfl rfl rfl rfl (by kernel_rfl) (by decide) (by decide) (fun K hK=>?_) (fun K hK=>?_)
          · skip;refine value_ (w1:=?_) (v:=?_) (by rfl) rfl ?_ ?_;rotate_left 2
            · go_simp
              constructor
              · rfl
              · rfl
            have h0_:=qA (HI.out.alloc (.cells #[.int .i64 n] 3));have B2:=qA (blk_new wd (.cells #[.int .i64 n] 3));clear HI;have HI:=h0_;clear h0_;generalize wd.heap.size=k2 at B2 ⊢;generalize hW_:World.alloc wd (.cells #[.int .i64 n] 3)=W1 at HI B2 ⊢;clear hW_;refine hK.out _ _ ⟨(cell_of_one HI.out.x5),(cell_of_one HI.out.x6)⟩ (fun hHeld=>?_);clear hK K;refine norm_ (a':=?_) ?_ ?_;rotate_left
            · show Act.put _ (some 22) _=_
              simp only [Act.put,List.setIfInBounds_toArray,List.set_cons_zero,List.set_cons_succ,i64_w,i32_w];rfl
            refine two_ (i:=3) (j:=5) (Ni:=some 23) (Nj:=some 25) #[true,true,true,true,true,false,false,false,false] #[true,true,true,false,true,true,false,false,false] rfl rfl rfl rfl (by kernel_rfl) (by decide) (by decide) (fun K hK=>?_) (fun K hK=>?_)
            · skip;refine Kd.R_append_rows_step (Kd.int .i64) (w0:=w) w.heap.size (by rfl) (.tmp 20) (.tmp 22) 36 3 (.int .i64 0) 8 rfl Tryz.underlying36 info3 rfl (by decide) (by omega) (.slice A4 s4.length c4) s4.reverse [n] _ _ _ (fun _=>True) (fun _=>False) rfl rfl ?aO ?aR (fun _ _ h=>h) (fun _ h=>h.elim) ?aF ?aB ?aS ?aL ?_
              (case aO=>exact HI.out.r5)
              (case aR=>exact row_of_one B2.out)
              (case aF=>exact fun _ _=>trivial)
              (case aB=>exact HI.out.bel)
              (case aS=>exact HI.out.bel.size)
              (case aL=>have:=HM2.out;have:=HM.out;have:=HK.out;simp;omega)
              intro v3_ W2 ho hb hg hat;obtain ⟨A3,c3,e3⟩:=Kd.R_slice ho;subst e3;have hl3_:(s4.reverse++[n]).length=s4.length+1:=by simp
              rw [hl3_] at ho;have HU:=qA (HI.out.up hg ho hb);clear ho hb hg hat HI B2
              try rw [hl3_]
              clear hl3_;refine hK.out _ _ ⟨(cell_of_one HU.out.x5),(cell_of_one HU.out.x6)⟩ (fun hHeld=>?_);clear hK K;refine norm_ (a':=?_) ?_ ?_;rotate_left
              · show Act.put _ (some 23) _=_
                simp only [Act.put,List.setIfInBounds_toArray,List.set_cons_zero,List.set_cons_succ,i64_w,i32_w];rfl
              refine one_ (i:=5) (N:=some 25) #[true,true,true,true,true,true,false,false,false] rfl rfl (by kernel_rfl) (by decide) (fun K hK=>?_);refine value_ (w1:=?_) (v:=?_) (by rfl) rfl ?_ ?_;rotate_left 2
              · go_simp
                constructor
                · rfl
                · rfl
              have h0_:=qA (HU.out.alloc (.cells #[.int .u8 73] 5));have B5:=qA (blk_new W2 (.cells #[.int .u8 73] 5));clear HU;have HU:=h0_;clear h0_;generalize W2.heap.size=k5 at B5 ⊢;generalize hW_:World.alloc W2 (.cells #[.int .u8 73] 5)=W3 at HU B5 ⊢;clear hW_;refine hK.out _ _ ⟨(cell_of_one HU.out.x5),(cell_of_one HU.out.x6)⟩ (fun hHeld=>?_);clear hK K;refine norm_ (a':=?_) ?_ ?_;rotate_left
              · show Act.put _ (some 25) _=_
                simp only [Act.put,List.setIfInBounds_toArray,List.set_cons_zero,List.set_cons_succ,i64_w,i32_w];rfl
              exact norm_ (by simp only [putAll,Act.put,List.setIfInBounds_toArray,List.set_cons_zero,List.set_cons_succ]) (hCont (k2,(A3,c3),k5) _ ⟨HU.out,B5.out⟩)
            · skip;refine value_ (w1:=?_) (v:=?_) (by rfl) rfl ?_ ?_;rotate_left 2
              · go_simp
                constructor
                · rfl
                · rfl
              have h0_:=qA (HI.out.alloc (.cells #[.int .u8 73] 5));have B5:=qA (blk_new W1 (.cells #[.int .u8 73] 5));have gB2_:=qA (blk_alloc B2.out (.cells #[.int .u8 73] 5));clear HI B2;have HI:=h0_;clear h0_;have B2:=gB2_;clear gB2_;generalize W1.heap.size=k5 at B5 ⊢;generalize hW_:World.alloc W1 (.cells #[.int .u8 73] 5)=W2 at HI B5 B2 ⊢;clear hW_;refine hK.out _ _ ⟨(cell_of_one HI.out.x5),(cell_of_one HI.out.x6)⟩ (fun hHeld=>?_);clear hK K;refine norm_ (a':=?_) ?_ ?_;rotate_left
              · show Act.put _ (some 25) _=_
                simp only [Act.put,List.setIfInBounds_toArray,List.set_cons_zero,List.set_cons_succ,i64_w,i32_w];rfl
              refine one_ (i:=3) (N:=some 23) #[true,true,true,true,true,true,false,false,false] rfl rfl (by kernel_rfl) (by decide) (fun K hK=>?_);refine Kd.R_append_rows_step (Kd.int .i64) (w0:=w) w.heap.size (by rfl) (.tmp 20) (.tmp 22) 36 3 (.int .i64 0) 8 rfl Tryz.underlying36 info3 rfl (by decide) (by omega) (.slice A4 s4.length c4) s4.reverse [n] _ _ _ (fun _=>True) (fun _=>False) rfl rfl ?aO ?aR (fun _ _ h=>h) (fun _ h=>h.elim) ?aF ?aB ?aS ?aL ?_
              (case aO=>exact HI.out.r5)
              (case aR=>exact row_of_one B2.out)
              (case aF=>exact fun _ _=>trivial)
              (case aB=>exact HI.out.bel)
              (case aS=>exact HI.out.bel.size)
              (case aL=>have:=HM2.out;have:=HM.out;have:=HK.out;simp;omega)
              intro v3_ W3 ho hb hg hat;obtain ⟨A3,c3,e3⟩:=Kd.R_slice ho;subst e3;have hl3_:(s4.reverse++[n]).length=s4.length+1:=by simp
              rw [hl3_] at ho;have gB5_:=qA (blk_grown B5.out hg (Kd.R_ne HI.out.r5 B5.out (by decide)));clear B5;have B5:=gB5_;clear gB5_;have HU:=qA (HI.out.up hg ho hb);clear ho hb hg hat HI B2
              try rw [hl3_]
              clear hl3_;refine hK.out _ _ ⟨(cell_of_one HU.out.x5),(cell_of_one HU.out.x6)⟩ (fun hHeld=>?_);clear hK K;refine norm_ (a':=?_) ?_ ?_;rotate_left
              · show Act.put _ (some 23) _=_
                simp only [Act.put,List.setIfInBounds_toArray,List.set_cons_zero,List.set_cons_succ,i64_w,i32_w];rfl
              exact norm_ (by simp only [putAll,Act.put,List.setIfInBounds_toArray,List.set_cons_zero,List.set_cons_succ]) (hCont (k2,(A3,c3),k5) _ ⟨HU.out,B5.out⟩)
          · skip;refine value_ (w1:=?_) (v:=?_) (by rfl) rfl ?_ ?_;rotate_left 2
            · go_simp
              constructor
              · rfl
              · rfl
            have h0_:=qA (HI.out.alloc (.cells #[.int .u8 73] 5));have B5:=qA (blk_new wd (.cells #[.int .u8 73] 5));clear HI;have HI:=h0_;clear h0_;generalize wd.heap.size=k5 at B5 ⊢;generalize hW_:World.alloc wd (.cells #[.int .u8 73] 5)=W1 at HI B5 ⊢;clear hW_;refine hK.out _ _ ⟨(cell_of_one HI.out.x5),(cell_of_one HI.out.x6)⟩ (fun hHeld=>?_);clear hK K;refine norm_ (a':=?_) ?_ ?_;rotate_left
            · show Act.put _ (some 25) _=_
              simp only [Act.put,List.setIfInBounds_toArray,List.set_cons_zero,List.set_cons_succ,i64_w,i32_w];rfl
            refine one_ (i:=2) (N:=some 22) #[true,true,true,false,true,true,false,false,false] rfl rfl (by kernel_rfl) (by decide) (fun K hK=>?_);refine value_ (w1:=?_) (v:=?_) (by rfl) rfl ?_ ?_;rotate_left 2
            · go_simp
              constructor
              · rfl
              · rfl
            have h0_:=qA (HI.out.alloc (.cells #[.int .i64 n] 3));have B2:=qA (blk_new W1 (.cells #[.int .i64 n] 3));have gB5_:=qA (blk_alloc B5.out (.cells #[.int .i64 n] 3));clear HI B5;have HI:=h0_;clear h0_;have B5:=gB5_;clear gB5_;generalize W1.heap.size=k2 at B2 ⊢;generalize hW_:World.alloc W1 (.cells #[.int .i64 n] 3)=W2 at HI B2 B5 ⊢;clear hW_;refine hK.out _ _ ⟨(cell_of_one HI.out.x5),(cell_of_one HI.out.x6)⟩ (fun hHeld=>?_);clear hK K;refine norm_ (a':=?_) ?_ ?_;rotate_left
            · show Act.put _ (some 22) _=_
              simp only [Act.put,List.setIfInBounds_toArray,List.set_cons_zero,List.set_cons_succ,i64_w,i32_w];rfl
            refine one_ (i:=3) (N:=some 23) #[true,true,true,true,true,true,false,false,false] rfl rfl (by kernel_rfl) (by decide) (fun K hK=>?_);refine Kd.R_append_rows_step (Kd.int .i64) (w0:=w) w.heap.size (by rfl) (.tmp 20) (.tmp 22) 36 3 (.int .i64 0) 8 rfl Tryz.underlying36 info3 rfl (by decide) (by omega) (.slice A4 s4.length c4) s4.reverse [n] _ _ _ (fun _=>True) (fun _=>False) rfl rfl ?aO ?aR (fun _ _ h=>h) (fun _ h=>h.elim) ?aF ?aB ?aS ?aL ?_
            (case aO=>exact HI.out.r5)
            (case aR=>exact row_of_one B2.out)
            (case aF=>exact fun _ _=>trivial)
            (case aB=>exact HI.out.bel)
            (case aS=>exact HI.out.bel.size)
            (case aL=>have:=HM2.out;have:=HM.out;have:=HK.out;simp;omega)
            intro v3_ W3 ho hb hg hat;obtain ⟨A3,c3,e3⟩:=Kd.R_slice ho;subst e3;have hl3_:(s4.reverse++[n]).length=s4.length+1:=by simp
            rw [hl3_] at ho;have gB5_:=qA (blk_grown B5.out hg (Kd.R_ne HI.out.r5 B5.out (by decide)));clear B5;have B5:=gB5_;clear gB5_;have HU:=qA (HI.out.up hg ho hb);clear ho hb hg hat HI B2
            try rw [hl3_]
            clear hl3_;refine hK.out _ _ ⟨(cell_of_one HU.out.x5),(cell_of_one HU.out.x6)⟩ (fun hHeld=>?_);clear hK K;refine norm_ (a':=?_) ?_ ?_;rotate_left
            · show Act.put _ (some 23) _=_
              simp only [Act.put,List.setIfInBounds_toArray,List.set_cons_zero,List.set_cons_succ,i64_w,i32_w];rfl
            exact norm_ (by simp only [putAll,Act.put,List.setIfInBounds_toArray,List.set_cons_zero,List.set_cons_succ]) (hCont (k2,(A3,c3),k5) _ ⟨HU.out,B5.out⟩)
        rintro ⟨k2,⟨A3,c3⟩,k5⟩ W4 ⟨HU0,B50⟩;have HU:=qA HU0;have B5:=qA B50;clear HU0 B50;dsimp only at HU B5;have hHeld:=And.intro (cell_of_one HU.out.x5) (cell_of_one HU.out.x6);refine norm_ (a':=?_) ?_ ?_;rotate_left
        · simp only [putAll,Act.put,List.setIfInBounds_toArray,List.set_cons_zero,List.set_cons_succ];rfl
        refine one_ (i:=6) (N:=some 26) #[true,true,true,true,true,true,true,false,false] rfl rfl (by kernel_rfl) (by decide) (fun K hK=>?_);refine Kd.R_append_rows_step (Kd.int .u8) (w0:=w) w.heap.size (by rfl) (.tmp 24) (.tmp 25) 22 5 (.int .u8 0) 1 rfl Tryz.underlying22 sw_info8 rfl (by decide) (by omega) (.slice Ao o4.length co) o4 [73] _ _ _ (fun _=>True) (fun _=>False) rfl rfl ?bO ?bR (fun _ _ h=>h) (fun _ h=>h.elim) ?bF ?bB ?bS ?bL ?_
        (case bO=>exact HU.out.r6)
        (case bR=>exact row_of_one B5.out)
        (case bF=>exact fun _ _=>trivial)
        (case bB=>exact HU.out.bel)
        (case bS=>exact HU.out.bel.size)
        (case bL=>have:=HM2.out;have:=HM.out;have:=HK.out;simp;omega)
        intro v6_ W5 ho hb hg hat;obtain ⟨A6,c6_,e6⟩:=Kd.R_slice ho;subst e6;have HT:=qA (HU.out.two hg ho hb);clear ho hb hg hat;have f5:=free_of_one HT.out.x5;have f6:=free_of_one HT.out.x6;have n56:w11.heap.size≠w11.heap.size+1:=by omega
        refine hK.out _ _ ⟨(cell_of_one HT.out.x5),(cell_of_one HT.out.x6)⟩ (fun hHeld=>?_);clear hK K;refine norm_ (a':=?_) ?_ ?_;rotate_left
        · show Act.put _ (some 26) _=_
          simp only [Act.put,List.setIfInBounds_toArray,List.set_cons_zero,List.set_cons_succ,i64_w,i32_w];rfl
        refine last_ (i:=7) (N:=none) #[true,true,true,true,true,true,true,true,false] rfl rfl (by kernel_rfl) (by decide) (fun K hK=>?_);refine skip_ (w1:=?_) (by rfl) rfl ?_ ?_;rotate_left
        · go_simp;rfl
        have z6:=blk_far HT.out.x6 (p:=⟨w11.heap.size,0,none⟩) (Ne.symm n56) (.slice A3 (s4.length+1) c3);have c6b:=cell_of_one z6;have f6b:=free_of_one z6;clear z6;refine hK.out _ _ ?_;clear hK K;refine last_ (i:=8) (N:=none) #[true,true,true,true,true,true,true,true,true] rfl rfl (by kernel_rfl) (by decide) (fun K hK=>?_);refine skip_ (w1:=?_) (by rfl) rfl ?_ ?_;rotate_left
        · go_simp;rfl
        refine hK.out _ _ ?_;clear hK K;refine done_ (by kernel_rfl) ?_

        go_wp2_with (fail)
        go_roundg k1
        case measure=>omega
        have z:=HT.out.stored;rw [show (o4++[(73:Int)]).length=o4.length+1 by simp] at z
        case rel=>exact ⟨kk+1,n :: s4,o4++[73],A3,c3,_,by go_num,⟨by have:=HK.out;omega⟩,⟨z⟩,HE2,⟨by have:=HM2.out;have:=HM.out;simp;omega⟩,⟨by intro x hx;rcases List.mem_cons.1 hx with rfl|hx;exact HN8.out;exact H82.out x hx⟩⟩
      · obtain rfl:kk=l0.length:=by have:=HK.out;omega
        have d1:decide ((l0.length:Int) < (l0.length:Int))=false:=decide_eq_false (by omega);have hp:=lwPop_all st H8.out;have e7:out++List.replicate st.length 79=R:=by rw [← HE.out,List.drop_of_length_le (Nat.le_refl _)];simp [lw]
        have HP:=qA hp;have HE7:=qA e7;have HLB:=qA (show out.length+st.length < 140737488355328 by have:=HM.out;omega);clear hlt hp e7 HE
        go_wp2_with ((go_at_call 160;refine (sweepWord_pop w _ w11.heap.size (w11.heap.size+1) 8 st out A c vo HI.out HLB.out).mono ?_;rintro e wc ⟨rfl,v1,hI⟩;rw [HP.out] at hI;dsimp only at hI;rw [HE7.out] at hI;obtain ⟨A6,c6,e6⟩:=Kd.R_slice hI.r6;subst e6;have cc6:=cell_of_one hI.x6;have hcv:=Kd.C_string (P:=Tryz.prog) (c:=c6) Tryz.underlying22 Tryz.underlying5 Tryz.underlying9 (Kd.R_reads' hI.r6).2.2;have HB6:=qA hI.bel;clear hI))
        go_ret;exact ⟨rfl,HB6.out⟩
  · cases h

end Go.Proofs.YtaoecbpfocillaaGreat.Xdz
