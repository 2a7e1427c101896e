/- The plain law. -/
import Derived.Test.YtkpgggfibljflaaGreatDoorgQS18
set_option linter.all false
set_option maxRecDepth 100000
namespace Go.Proofs.YtkpgggfibljflaaGreatDoor
open Go Go.RowKit Go.Proofs
theorem LP {x:Int} (h0 : -9223372036854775808≤x) (h1:x≤9223372036854775807):IntKind.i64.wrap x=x:=by
 simp [IntKind.wrap,IntKind.bits,IntKind.signed]; omega
theorem wN (i:Nat) (h:i≤4000000000000000000):IntKind.i64.wrap ((i:Int)+1)=((i+1:Nat):Int):=by
 rw [LP (by omega) (by omega)]; rfl
theorem Cb {α:Type} {l:List α} {i:Nat} (h:i<l.length):A4 l (i:Int)=some l[i]:=by
 show l[i]? = _
 rw [Zao h]
theorem Ug {α:Type} {l:List α} {i:Nat} (h:i<l.length):l.get?Internal i=some l[i]:=by
 show l[i]? = _
 rw [Zao h]
theorem B6 {α:Type} {a b:List α} (h:a.length+b.length≤1000000000):app a b=some (a++b):=by
 unfold app
 rw [if_pos (by rw [Zan]; exact h)]
def ZO {α S R:Type} (T:S→Nat→α→S ⊕ R) (E:S→R):Nat→S→List α→R
 | _,s,[]=>E s
 | i,s,a::l=>match T s i a with
  | .inl s'=>ZO T E (i+1) s' l
  | .inr r=>r
theorem R9 {α S R:Type} {F:Nat→S→Int→Option R} {l:List α} {B:Nat→S→Int→α→Option R} {T:S→Nat→α→S ⊕ R} {E:S→R} {N:Nat} (Inv:S→Nat→Prop)
  (hF:∀ n s i,F (n+1) s i=bif decide (i<(l.length:Int)) then(A4 l i).bind (B n s i) else some (E s))
  (hB:∀ n s (i:Nat) (hi:i<l.length),N≤n→Inv s i→match T s i l[i] with
   | .inl s'=>B n s (i:Int) l[i]=F n s' (IntKind.i64.wrap ((i:Int)+1))∧Inv s' (i+1)
   | .inr r=>B n s (i:Int) l[i]=some r)
  (hl:l.length≤4000000000000000000):∀ (k:Nat)(s:S)(i n:Nat),i+k=l.length→N+k<n→Inv s i→F n s (i:Int)=some (ZO T E i s (l.drop i))
 | k,s,i,0,_,h,_=>absurd h (Zav _)
 | 0,s,i,n+1,hk,h,_=>by
  have hd:l.drop i=[]:=by simp; omega
  rw [hF,hd,show decide ((i:Int)<(l.length:Int))=false by simp; omega]
  rfl
 | k+1,s,i,n+1,hk,h,hI=>by
  have hi:i<l.length:=by omega
  have hd:l.drop i=l[i]::l.drop (i+1):=Zaj hi
  rw [hF,hd,show decide ((i:Int)<(l.length:Int))=true by simp; omega,Zac,Cb hi,Zaa]
  have hb:=hB n s i hi (by omega) hI
  unfold ZO
  cases ht:T s i l[i] with
  | inl s' =>
   rw [ht] at hb
   simp only at hb ⊢
   rw [hb.1,wN i (by omega)]
   exact R9 Inv hF hB hl k s' (i+1) n (by omega) (by omega) hb.2
  | inr r =>
   rw [ht] at hb
   exact hb
def EJ (x lo hi:Int):Bool:=decide (lo≤x) && decide (x≤hi)
theorem EX {x lo hi:Int}:EJ x lo hi=true↔lo≤x∧x≤hi:=by simp [EJ]
theorem Y4 {x lo hi:Int}:EJ x lo hi=false↔¬ (lo≤x∧x≤hi):=by rw [← EX]; simp
end Go.Proofs.YtkpgggfibljflaaGreatDoor
