/- What a printed proof leans on: memory that is read, and steps through a region. -/
import Derived.Test.YthcbemnflgjadaanbS4
import Derived.Sort.OwnSortedInts
set_option linter.all false
namespace Go.Proofs.Ythcbemnflgjadaa
open Go Go.RowKit
open Rep (rep)
instance {K α:Type} [DecidableEq K] [DecidableEq α]:DecidableEq (SI K α):=fun a b=>decidable_of_iff (a.l=b.l) ⟨fun h=>by cases a; cases b; simp_all,fun h=>h▸rfl⟩
instance {K α:Type}:Inhabited (SI K α):=⟨⟨[]⟩⟩
structure Bx (α:Type) where
  v:α
deriving DecidableEq,Inhabited
instance {α:Type} [Rep α]:Rep (Bx α):=⟨1,fun h x cs=>∃ b,cs=[.pointer (some ⟨b,0,none⟩)]∧Ca h b x.v,fun hle ⟨b,e,hb⟩=>⟨b,e,hb.mono hle⟩,fun⟨b,e,_⟩=>by subst e; rfl,fun⟨b,e,_⟩ v hv=>by subst e; simp at hv; subst hv; rfl⟩
def EE (l:List Int):List Int:=l.mergeSort fun x y=>decide (x≤y)
def Nh (l:List Int):Option (List Int):=if l.length<4611686018427387904 then some (EE l) else none
theorem Rd {l u:List Int} (h:Nh l=some u):l.length<4611686018427387904∧u=EE l:=by
  unfold Nh at h
  split at h
  · rename_i hl; exact⟨hl,(Option.some.inj h).symm⟩
  · cases h
theorem Ok (l:List Int):(EE l).length=l.length:=List.length_mergeSort l
def T7 (P:Program) (f:FuncId):Prop :=
  (∀ (blk cap:Nat)(zs:List Int)(w:World),Go.Sort.Holds (Value.int .i64) w blk 0 zs.toArray→blk<w.heap.size→zs.length<4611686018427387904 →
    Calls P f #[.slice (some ⟨blk,0,none⟩) zs.length cap] w fun e w'=>e=.returned (.tuple #[])∧∃ n os,w' = Go.Sort.grow (Go.Sort.putRow (Value.int .i64) (Go.Sort.ahead w n) blk 0 (EE zs).toArray) os) ∧
  (∀ (c:Nat)(w:World),Calls P f #[.slice none 0 c] w fun e w'=>e=.returned (.tuple #[])∧w' = w)
theorem Ni {h:Ac}:∀ {l:List Int} {xs:List Value},Ah h l xs→xs=l.map (Value.int .i64)
  | [],xs,hc=>hc
  | x::l,xs,hc=>by
    obtain⟨cs,rest,rfl,hx,hr⟩:=hc
    have hx':cs=[Value.int .i64 x]:=hx
    rw [hx',Ni hr]; rfl
theorem K9 (h:Ac):∀ (l:List Int),Ah h l (l.map (Value.int .i64))
  | []=>rfl
  | x::l=>⟨[.int .i64 x],_,rfl,rfl,K9 h l⟩
section
variable {P:Program} {N:Nat} {F:Fr} {h:Ac} {e:AM} {pl:List C3} {rw:List Cv} {m:TM} {t:Array Value} {dd:List Deferred} {w w':World}
  {o:Oper} {K:Act→World→Prop} {Q:Exit→Act→World→Prop} {d:Nat}
theorem Tx {f:FuncId} {args:Array Operand} {tys:Array TypeId} {r:Cv} {l:List Int} (S:T7 P f) (i:Nat) (hk:Kn N e m t) (hm:Al F h e pl rw w) (hop:o.op=.call ⟨.value (.func f),args,tys⟩) (hd:o.dst=some d) (hlt:d<N)
    (hargs:I0 m args.toList=some [.c (.slice r.a r.n r.c)]) (hent:∀ args w,(callFunc f args).run P w=.ok (.enter f args) w) (hi:rw[i]? = some r) (hsz:r.sz=1) (hn:r.n=l.length) (hf:r.frz=0) (hc:Ah h l r.xs) (hlen:l.length<4611686018427387904)
    (hK:∀ t' w',Kn N e (m.put d (.tup [])) t'→Al F h e pl (rw.set i ⟨r.a,r.n,r.c,r.E,r.sz,(EE l).map (Value.int .i64),0⟩) w'→K ⟨t',dd⟩ w'):o.wp P ⟨t,dd⟩ w K Q:=by
  have h1:args.map (Act.mk t dd).eval=#[.slice r.a r.n r.c]:=by
    have:=Dn (dd:=dd) hk hargs
    apply Array.ext'
    rw [Array.toList_map,this]; rfl
  have hxs:=Ni hc
  have hcall:Calls P f #[.slice r.a r.n r.c] w fun en w'=>en=.returned (.tuple #[])∧Al F h e pl (rw.set i ⟨r.a,r.n,r.c,r.E,r.sz,(EE l).map (Value.int .i64),0⟩) w':=by
    have hrow:=hm.row hi
    rcases hrow.2 with⟨hv,h0⟩ | ⟨g,cap,cur,hv,hb,hg,q1,q2,q3,q4⟩
    · obtain⟨ra,rn,rc,rE,rsz,rxs,rfz⟩:=r
      simp only at *
      have ha:ra=none:=by simpa using congrArg (fun v=>match v with | Value.slice a _ _=>a | _=>none) hv
      subst ha
      have hl:l=[]:=List.eq_nil_of_length_eq_zero (by omega)
      subst hl
      subst h0
      refine(S.2 rc w).mono ?_
      rintro en w' ⟨rfl,rfl⟩
      refine⟨rfl,?_⟩
      have:rw.set i ⟨none,0,rc,rE,rsz,List.map (Value.int .i64) (EE []),0⟩=rw:=by
        have hq:(⟨none,0,rc,rE,rsz,List.map (Value.int .i64) (EE []),0⟩:Cv)=⟨none,0,rc,rE,rsz,rxs,rfz⟩:=by
          rw [hxs,hf,show EE []=[] from by simp [EE]]
        rw [hq]
        exact Kw hi
      rw [this]; exact hm
    · obtain⟨ra,rn,rc,rE,rsz,rxs,rfz⟩:=r
      simp only at *
      simp only [Value.slice.injEq,true_and] at hv
      obtain⟨rfl,rfl⟩:=hv
      subst hn hsz
      have hhold:Go.Sort.Holds (Value.int .i64) w g 0 l.toArray:=holds_of_blockI hg (by rw [Nat.mul_one] at q4; rw [q4,hxs])
      have hlt:=(Array.getElem?_eq_some_iff.1 hg).1
      refine(S.1 g rc l w hhold hlt hlen).mono ?_
      rintro en w' ⟨rfl,n,os,rfl⟩
      refine⟨rfl,hm.setRow hi (r':=⟨some ⟨g,0,none⟩,l.length,rc,rE,1,(EE l).map (Value.int .i64),0⟩) ?_ (fun o ho=>absurd ho (by simp [hf])) (fun v hv=>?_) (.inl ⟨rfl,hf.symm,grownBy_sortedI _⟩)⟩
      · exact ownsRow_sortedI (by rw [Ok]) hb hg q1 q2 q3
      · obtain⟨x,_,rfl⟩:=List.mem_map.1 hv; rfl
  unfold Oper.wp execOp
  simp only [hop,resolve,h1]
  simp only [Act.eval,Deferred.ofValue,Sem.run_bind,Sem.run_pure,Result.andThen_ok,invoke,Array.empty_append,Array.append_empty,hent,Oper.upon]
  refine hcall.mono ?_
  rintro en w' ⟨rfl,hm'⟩
  show K _ _
  rw [DL t dd hd]
  exact hK _ _ (hk.put hlt (.tup [])) hm'
where
  Kw {α:Type} {l:List α} {i:Nat} {x:α} (h:l[i]? = some x):l.set i x=l:=by
    apply List.ext_getElem?
    intro j
    by_cases hj:i=j
    · subst hj
      have hlt:i<l.length:=(List.getElem?_eq_some_iff.1 h).1
      rw [List.getElem?_set_self hlt,h]
    · rw [List.getElem?_set_ne hj]
theorem A6.take {α:Type} [Rep α] {a:Option Addr} {xs:List α} {c:Nat} (hr:A6 h a c xs) (n:Nat):A6 h a c (xs.take n):=by
  obtain⟨vs,h1,h2,hc⟩:=hr
  refine⟨_,h1.take n,fun o x hx=>?_,by rw [List.length_take]; omega⟩
  rw [List.getElem?_take] at hx
  split at hx
  · exact h2 _ _ hx
  · cases hx
theorem A6.cap {α:Type} [Rep α] {a:Option Addr} {xs:List α} {c:Nat} (hr:A6 h a c xs):xs.length≤c:=by
  obtain⟨_,_,_,h⟩:=hr
  exact h
def Ol {α:Type} [Rep α] (h:Ac):List SC→List (List α)→Prop
  | [],[]=>True
  | c::cs,x::xs=>(∃ a k,c=.slice a x.length k∧A6 h a k x)∧Ol h cs xs
  | _,_=>False
theorem Re {α:Type} [Rep α]:Ol (α:=α) h [] []:=trivial
theorem Jd {α:Type} [Rep α] {a:Option Addr} {k:Nat} {x:List α} {cs:List SC} {xs:List (List α)} (hr:A6 h a k x) (ht:Ol h cs xs):Ol h (.slice a x.length k::cs) (x::xs):=⟨⟨a,k,rfl,hr⟩,ht⟩
theorem R6 {α:Type} [Rep α]:∀ {cs:List SC} {xs:List (List α)},Ol h cs xs→∀ {k:Nat} {x:List α},xs[k]? = some x→∃ a c,(cs.drop k).take 1=[.slice a x.length c]∧A6 h a c x
  | [],[],_,k,x,hx=>by simp at hx
  | c::cs,y::xs,H,0,x,hx=>by
    obtain⟨⟨a,k,rfl,hr⟩,_⟩:=H
    simp at hx
    subst hx
    exact⟨a,k,rfl,hr⟩
  | c::cs,y::xs,H,k+1,x,hx=>by
    obtain⟨a,c',h1,h2⟩:=R6 H.2 (by simpa using hx)
    exact⟨a,c',by simpa using h1,h2⟩
  | [],_::_,H,_,_,_=>H.elim
  | _::_,[],H,_,_,_=>H.elim
theorem Rf {α:Type} [Rep α] {cs:List SC} {xs:List (List α)} (H:Ol h cs xs) {k O:Nat} {x:List α} (hx:xs[k]? = some x) (hO:O=0+k*1):∃ a c,(cs.drop O).take 1=[.slice a x.length c]∧A6 h a c x:=by
  subst hO
  rw [Nat.zero_add,Nat.mul_one]
  exact R6 H hx
end
end Go.Proofs.Ythcbemnflgjadaa
