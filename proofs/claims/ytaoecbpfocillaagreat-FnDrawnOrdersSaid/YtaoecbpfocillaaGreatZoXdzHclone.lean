/- slices.Clone at []int: a new row of the same numbers; nil of nil. -/
import Derived.Test.YtaoecbpfocillaaGreatZoXdz0
import Derived.WalkSpells
namespace Go.Proofs.YtaoecbpfocillaaGreat.Xdz
open Go.RowKit Go.Proofs.YtaoecbpfocillaaGreatW.PrintWords Go.Proofs.YtaoecbpfocillaaGreatW.PrintLast Go.Proofs.YtaoecbpfocillaaGreatW.PrintMore
attribute [local go_sem] max2_int min2_int max_two min_two max_three min_three max_four min_four
set_option linter.unusedVariables false
set_option linter.unusedSimpArgs false
def slices_Clone_int_int.f (l0:List Int):Option (List Int):=if l0.length < 17592186044416 then some l0 else none
set_option maxHeartbeats 8000000 in
set_option maxRecDepth 100000 in
theorem slices_Clone_int_int.calls (A0:Option Addr) (c0:Nat) (l0:List Int) (r:List Int) (w:World) (hr0:Kd.C (Kd.int .i64) w A0 l0.length l0) (hc0:l0.length≤c0) (h:slices_Clone_int_int.f l0=some r):
    Calls Tryz.prog 143 #[.slice A0 l0.length c0] w fun e w'=>∃ v0_:Value,e=.returned (v0_)∧Kd.R (Kd.int .i64) 3 w' w.heap.size (fun _=>True) v0_ r∧Below w.heap.size w w':=by
  unfold slices_Clone_int_int.f at h
  split at h
  · rename_i hl
    obtain rfl:=Option.some.inj h;clear h
    cases A0 with
    |none=>
      obtain rfl:l0=[]:=by
        cases l0 with
        |nil=>rfl
        |cons x t=>
          obtain ⟨ad,hx,_⟩:=hr0.2.2 (by simp);cases hx
      clear hr0 hc0 hl;have en:=fun (w:World) (a:Option Addr) (n c:Nat)=>Lib.run_eql_slice_nil (P:=Tryz.prog) w 36 3 a n c 0 0 Tryz.underlying36
      go_enter Tryz.func143,Tryz.ntmps143
      go_wp2
      go_ret;exact ⟨_,rfl,Kd.R_nil _ _ _ _ _,Below.refl _ _⟩
    |some ad=>
      have HR0:=qA hr0;have HC0:=qA hc0;have HL:=qA hl;clear hr0 hc0 hl;have en:=fun (w:World) (a:Option Addr) (n c:Nat)=>Lib.run_eql_slice_nil (P:=Tryz.prog) w 36 3 a n c 0 0 Tryz.underlying36
      go_enter Tryz.func143,Tryz.ntmps143
      go_wp2_with (first
        |((with_reducible refine gate_dst (N:=5) rfl ?_);refine Kd.R_lit (Kd.int .i64) _ 3 ?hg (N:=5) ?hd (xs:=([]:List Int)) (inner:=[]) (ok:=fun _=>True) (okp:=fun _=>True) ?hr ?hp (fun _ hk=>hk) trivial (Below.refl _ _) (Nat.le_refl _) (by simp) ?_;(case hd=>rfl);(case hg=>rfl);(case hr=>first|(go_simp;done)|(go_simp;rfl));(case hp=>exact (Reps.none _ _));intro v5 w5 ho5 hb5 hg_ hnew_;clear hg_ hnew_;have HO5:=qA ho5;have HB5:=qA hb5;clear ho5 hb5)
        |((with_reducible refine gate_builtin (b:=.append) (xs:= #[.tmp 5,.tmp 6]) rfl ?_);at_builtin;refine Kd.R_append_rows (Kd.int .i64) (w0:=w) w.heap.size rfl (.tmp 5) (.tmp 6) 36 3 (.int .i64 0) 8 rfl Tryz.underlying36 info3 rfl (by decide) (by omega) v5 [] l0 _ _ _ (fun _=>True) (fun _=>False) rfl rfl ?aO ?aR (fun _ _ h=>h) (fun _ h=>h.elim) ?aF ?aB ?aS ?aL ?_;(case aR=>exact Kd.C_below HR0.out HB5.out);(case aB=>exact HB5.out);(case aF=>exact fun _ _=>trivial);(case aO=>exact HO5.out);(case aS=>exact HB5.out.size);(case aL=>have:=HL.out;simp;omega);intro v7 w7 ho7 hb7 hg hat;have HO7:=qA ho7;have HB7:=qA hb7;clear ho7 hb7 hg hat))
      go_ret;exact ⟨_,rfl,by simpa using HO7.out,HB7.out⟩
  · cases h

end Go.Proofs.YtaoecbpfocillaaGreat.Xdz
