/- Plain words on lists, bytes and whole numbers, and on what the printed loops of every law share; no program in sight. -/
import Derived.Test.YtaoecbpfocillaaGreatZoW
set_option linter.unusedSimpArgs false
set_option linter.unusedVariables false
namespace Go.Proofs.YtaoecbpfocillaaGreat.Pk
open Go.RowKit Go.Proofs.YtaoecbpfocillaaGreatW.PrintWords

theorem wr {i:Int} (h0: -9223372036854775808≤i) (h1:i≤9223372036854775807):wrap64 i=i:=by unfold wrap64;omega
theorem wj {j:Nat} (h:j < 9223372036854775807):wrap64 ((j:Int)+1)=((j+1:Nat):Int):=by unfold wrap64;omega

theorem rd_nat (l:List Int) (j:Nat):rd l (j:Int)=l.getD j 0:=by unfold rd;rw [Int.toNat_natCast]
theorem rd_get (l:List Int) (j:Nat) (h:j < l.length):rd l (j:Int)=l[j]:=by rw [rd_nat];simp [h]
theorem rd_drop (l:List Int) (j:Nat) (h:j < l.length):l.drop j=rd l (j:Int) :: l.drop (j+1):=by
  rw [rd_get l j h];exact List.drop_eq_getElem_cons h
theorem take_succ (l:List Int) (j:Nat) (h:j < l.length):l.take (j+1)=l.take j++[rd l (j:Int)]:=by
  rw [rd_get l j h];exact (List.take_append_getElem h).symm
def iota (k:Int) (n:Nat):List Int:=(List.range n).map fun i:Nat=>k+(i:Int)
theorem iota_length (k:Int) (n:Nat):(iota k n).length=n:=by simp [iota]
theorem iota_succ (k:Int) (n:Nat):iota k (n+1)=iota k n++[k+(n:Int)]:=by simp [iota,List.range_succ]
def chk (n:Int):List Int→List Int→Bool
  |_,[]=>true
  |pre,x :: t=>decide (1≤x)&&decide (x≤n)&& !pre.contains x&&chk n (pre++[x]) t
/-- Is a list an order? -/
def ordB (l:List Int):Bool:=decide (1≤l.length)&&decide (l.length≤7)&&chk l.length [] l
theorem ordB_len {l:List Int} (h:ordB l=true):1≤l.length∧l.length≤7:=by
  unfold ordB at h;simp only [Bool.and_eq_true,decide_eq_true_eq] at h;exact h.1
theorem chk_spec (n:Int):∀ (l pre:List Int),chk n pre l=true→(∀ x ∈ l,1≤x∧x≤n)∧l.Nodup∧∀ x ∈ l,x ∉ pre
  |[],_,_=>⟨by simp,List.nodup_nil,by simp⟩
  |x :: t,pre,h=>by
    simp only [chk,Bool.and_eq_true,decide_eq_true_eq,Bool.not_eq_true',List.contains_eq_mem,decide_eq_false_iff_not] at h;obtain ⟨⟨⟨h1,h2⟩,h3⟩,h4⟩:=h;obtain ⟨a,b,c⟩:=chk_spec n t (pre++[x]) h4;refine ⟨?_,?_,?_⟩
    · intro y hy
      rcases List.mem_cons.1 hy with rfl|hy
      · exact ⟨h1,h2⟩
      · exact a y hy
    · exact List.nodup_cons.2 ⟨fun hx=>c x hx (by simp),b⟩
    · intro y hy
      rcases List.mem_cons.1 hy with rfl|hy
      · exact h3
      · exact fun hp=>c y hy (by simp [hp])
theorem ordB_range {l:List Int} (h:ordB l=true):∀ x ∈ l,1≤x∧x≤l.length:=by
  unfold ordB at h;simp only [Bool.and_eq_true,decide_eq_true_eq] at h;exact (chk_spec _ _ _ h.2).1
theorem ordB_nodup {l:List Int} (h:ordB l=true):l.Nodup:=by
  unfold ordB at h;simp only [Bool.and_eq_true,decide_eq_true_eq] at h;exact (chk_spec _ _ _ h.2).2.1

/-! ### beginnings of words: I = 73, O = 79 -/
end Go.Proofs.YtaoecbpfocillaaGreat.Pk
