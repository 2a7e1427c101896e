/- What a proof leans on: a machine that steps through code, and what functions compute. -/
import Derived.Test.YtkpgggfibljflaaGreatDoorgQS01
import Derived.Scope
set_option linter.all false
namespace Go.Proofs.YtkpgggfibljflaaGreatDoor
open Go Go.RowKit
open Rep (rep)
section
variable {P:Program} {ops:Array Oper} {X:List Nat} {Q:Exit→Act→World→Prop} {N:Nat} {F:Fr} {h:Ad} {e:HO} {pl:List WR} {rw:List Tb} {w:World} {m:TM} {t:Array Value} {dd:List Deferred} {o:Oper} {d:Nat} {K:Act→World→Prop}
def AaQ {α:Type} [Rep α] (h:Ad) (b:Nat) (x:α):Prop:=∃ cs,rep h x cs∧∀ j c,cs[j]? = some c→h b j=some c
theorem AaQ.mono {α:Type} [Rep α] {h h':Ad} {b:Nat} {x:α} (hle:Ad.le h h'):AaQ h b x→AaQ h' b x:=fun⟨cs,h1,h2⟩=>⟨cs,Rep.mono hle h1,fun j c hj=>hle _ _ _ (h2 j c hj)⟩
theorem AaQ.of {α:Type} [Rep α] {b:Nat} {x:α} {cs:List SC} {vs:List Value} (h1:rep h x vs) (hv:cs.map (SC.den e)=vs) (h2:∀ j c,cs[j]? = some c→h b (0+j)=some (c.den e)):AaQ h b x :=
 ⟨vs,h1,fun j c hj=>by
  rw [← hv,ZaD] at hj
  cases hc:cs[j]? with
  | none=>rw [hc] at hj; cases hj
  | some x=>rw [hc] at hj; cases hj; rw [← h2 j x hc,Zar]⟩
def sub {α:Type} (xs:List α) (lo:Int):Option (List α):=if 0≤lo∧lo≤xs.length then some (xs.drop lo.toNat) else none
theorem Ar.drop {α:Type} [Rep α]:∀ {xs:List α} {vs:List Value},Ar h xs vs→∀ n,n≤xs.length→Ar h (xs.drop n) (vs.drop (n*Rep.sz α))
 | _,_,hc,0,_=>by simpa using hc
 | [],vs,hc,n+1,hn=>by simp at hn
 | x::r,vs,⟨c1,c2,e,h1,h2⟩,n+1,hn=>by
  subst e
  have hl:=Rep.len h1
  rw [List.drop_succ_cons,show(n+1)*Rep.sz α=c1.length+n*Rep.sz α by rw [hl,Zbc]; omega,List.drop_append,List.drop_of_length_le (l:=c1) (by omega),Za6]
  rw [show c1.length+n*Rep.sz α-c1.length=n*Rep.sz α by omega]
  exact Ar.drop h2 n (by simpa using hn)
theorem F0.isNil {α:Type} [Rep α] {a:Option Addr} {c:Nat} {xs:List α} (hr:F0 h a c xs) (hs:0<Rep.sz α) (ha:a.isNone=true):xs=[]:=by
 obtain⟨vs,h1,h2,_⟩:=hr
 cases xs with
 | nil=>rfl
 | cons x r =>
  have hl:=h1.len
  have:0<vs.length:=by rw [hl,Zas,Zbc]; omega
  obtain⟨ad,e1,_⟩:=h2 0 _ (Zao this)
  subst e1; cases ha
def Me (sz:Nat) (a:Option Addr) (c l:Nat):Option Addr:=if c=l then a else a.map (·.add (l*sz))
theorem AdU (ad:Addr) (k:Nat) (h:ad.spot=none):(ad.add k).block=ad.block∧(ad.add k).off=ad.off+k∧(ad.add k).spot=none:=by
 cases ad
 simp only at h
 subst h
 unfold Addr.add
 split
 · rename_i h0; subst h0; simp
 · simp
theorem F0.drop {α:Type} [Rep α] {a:Option Addr} {xs:List α} {sz c n:Nat} (hs:Rep.sz α=sz) (hr:F0 h a c xs) (hn:n≤xs.length):F0 h (Me sz a c n) (c-n) (xs.drop n):=by
 obtain⟨vs,h1,h2,hc⟩:=hr
 refine⟨_,h1.drop n hn,fun o x hx=>?_,by rw [Zbo]; omega⟩
 rw [List.getElem?_drop] at hx
 obtain⟨ad,e1,e2,e3⟩:=h2 _ _ hx
 subst e1 hs
 unfold Me
 split
 · rename_i hcn
   have hlt:=(Zaq.1 hx).1
   rw [h1.len,show xs.length=n by omega] at hlt
   omega
 · obtain⟨q1,q2,q3⟩:=AdU ad (n*Rep.sz α) e2
   exact⟨_,rfl,q3,by rw [q1,q2,Zbk]; exact e3⟩
def Mf (h:Ad) (b:Nat) (vs:List Value):Prop:=∀ j v,vs[j]? = some v→h b j=some v
theorem Mf.mono {h h':Ad} {b:Nat} {vs:List Value} (hle:Ad.le h h'):Mf h b vs→Mf h' b vs:=fun H j v hj=>hle _ _ _ (H j v hj)
theorem Mf.of {b:Nat} {cs:List SC} {vs:List Value} (hv:cs.map (SC.den e)=vs) (h2:∀ j c,cs[j]? = some c→h b (0+j)=some (c.den e)):Mf h b vs:=fun j c hj=>by
 rw [← hv,ZaD] at hj
 cases hc:cs[j]? with
 | none=>rw [hc] at hj; cases hj
 | some x=>rw [hc] at hj; cases hj; rw [← h2 j x hc,Zar]
theorem Ar.take {α:Type} [Rep α]:∀ {xs:List α} {vs:List Value},Ar h xs vs→∀ n,Ar h (xs.take n) (vs.take (n*Rep.sz α))
 | _,_,_,0=>by simp; rfl
 | [],vs,hc,n+1=>by rw [show vs=[] from hc]; simp; rfl
 | x::r,vs,⟨c1,c2,e,h1,h2⟩,n+1=>by
  subst e
  have hl:=Rep.len h1
  rw [List.take_succ_cons,show(n+1)*Rep.sz α=c1.length+n*Rep.sz α by rw [hl,Zbc]; omega,List.take_append,Zbl (l:=c1) (by omega)]
  rw [show c1.length+n*Rep.sz α-c1.length=n*Rep.sz α by omega]
  exact⟨c1,_,rfl,h1,Ar.take h2 n⟩
end
end Go.Proofs.YtkpgggfibljflaaGreatDoor
