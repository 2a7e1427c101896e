/- What a printed proof leans on: memory that is read, and steps through a region. -/
import Derived.Test.YtokchpjijlebiaaWGS4
import Derived.Sort.OwnSortedInts
set_option linter.all false
namespace Go.Proofs.Ytokchpjijlebiaa
open Go Go.RowKit
open Rep (rep)
instance {K α:Type} [DecidableEq K] [DecidableEq α]:DecidableEq (DQ K α):=fun a b=>decidable_of_iff (a.l=b.l) ⟨fun h=>by cases a; cases b; simp_all,fun h=>h▸rfl⟩
instance {K α:Type}:Inhabited (DQ K α):=⟨⟨[]⟩⟩
structure Bx (α:Type) where
  v:α
deriving DecidableEq,Inhabited
instance {α:Type} [Rep α]:Rep (Bx α):=⟨1,fun h x cs=>∃ b,cs=[.pointer (some ⟨b,0,none⟩)]∧CC h b x.v,fun hle ⟨b,e,hb⟩=>⟨b,e,hb.mono hle⟩,fun⟨b,e,_⟩=>by subst e; rfl,fun⟨b,e,_⟩ v hv=>by subst e; simp at hv; subst hv; rfl⟩
section
variable {P:Program} {N:Nat} {F:Fr} {h:Ae} {e:Be} {pl:List CM} {rw:List Ge} {m:TM} {t:Array Value} {dd:List Deferred} {w w':World}
  {o:Oper} {K:Act→World→Prop} {Q:Exit→Act→World→Prop} {d:Nat}
theorem A8.take {α:Type} [Rep α] {a:Option Addr} {xs:List α} {c:Nat} (hr:A8 h a c xs) (n:Nat):A8 h a c (xs.take n):=by
  obtain⟨vs,h1,h2,hc⟩:=hr
  refine⟨_,h1.take n,fun o x hx=>?_,by rw [List.length_take]; omega⟩
  rw [List.getElem?_take] at hx
  split at hx
  · exact h2 _ _ hx
  · cases hx
theorem A8.cap {α:Type} [Rep α] {a:Option Addr} {xs:List α} {c:Nat} (hr:A8 h a c xs):xs.length≤c:=by
  obtain⟨_,_,_,h⟩:=hr
  exact h
end
end Go.Proofs.Ytokchpjijlebiaa
