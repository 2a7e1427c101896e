/- What a printed proof leans on: memory that is read, and steps through a region. -/
import Derived.Test.YtinminkmefljbaaGreattcS4
import Derived.Sort.OwnSortedInts
set_option linter.all false
namespace Go.Proofs.YtinminkmefljbaaGreat
open Go Go.RowKit
open Rep (rep)
instance {K α:Type} [DecidableEq K] [DecidableEq α]:DecidableEq (VD K α):=fun a b=>decidable_of_iff (a.l=b.l) ⟨fun h=>by cases a; cases b; simp_all,fun h=>h▸rfl⟩
instance {K α:Type}:Inhabited (VD K α):=⟨⟨[]⟩⟩
structure Bx (α:Type) where
  v:α
deriving DecidableEq,Inhabited
instance {α:Type} [Rep α]:Rep (Bx α):=⟨1,fun h x cs=>∃ b,cs=[.pointer (some ⟨b,0,none⟩)]∧B9 h b x.v,fun hle ⟨b,e,hb⟩=>⟨b,e,hb.mono hle⟩,fun⟨b,e,_⟩=>by subst e; rfl,fun⟨b,e,_⟩ v hv=>by subst e; simp at hv; subst hv; rfl⟩
def XK {α:Type} [Rep α] (h:Ac) (v:Value):Option (Bx α)→Prop
  | none=>v=.pointer none
  | some x=>∃ b,v=.pointer (some ⟨b,0,none⟩)∧B9 h b x.v
def Rg {α β:Type} (o:Option α) (A:β) (B:α→β):β:=match o with
  | none=>A
  | some x=>B x
theorem Rh {α β:Type} {A:β} {B:α→β}:Rg none A B=A:=rfl
theorem Ri {α β:Type} {A:β} {B:α→β} {x:α}:Rg (some x) A B=B x:=rfl
def Gq (l:List Int):List Int:=l.mergeSort fun x y=>decide (x≤y)
def Qo (l:List Int):Option (List Int):=if l.length<4611686018427387904 then some (Gq l) else none
theorem Tw {l u:List Int} (h:Qo l=some u):l.length<4611686018427387904∧u=Gq l:=by
  unfold Qo at h
  split at h
  · rename_i hl; exact⟨hl,(Option.some.inj h).symm⟩
  cases h
theorem Qp (l:List Int):(Gq l).length=l.length:=List.length_mergeSort l
def WN (P:Program) (f:FuncId):Prop :=
  (∀ (blk cap:Nat)(zs:List Int)(w:World),Go.Sort.Holds (Value.int .i64) w blk 0 zs.toArray→blk<w.heap.size→zs.length<4611686018427387904 →
    Calls P f #[.slice (some ⟨blk,0,none⟩) zs.length cap] w fun e w'=>e=.returned (.tuple #[])∧∃ n os,w' = Go.Sort.grow (Go.Sort.putRow (Value.int .i64) (Go.Sort.ahead w n) blk 0 (Gq zs).toArray) os) ∧
  (∀ (c:Nat)(w:World),Calls P f #[.slice none 0 c] w fun e w'=>e=.returned (.tuple #[])∧w' = w)
theorem Hb {h:Ac}:∀ {l:List Int} {xs:List Value},Ae h l xs→xs=l.map (Value.int .i64)
  | [],xs,hc=>hc
  | x::l,xs,hc=>by
    obtain⟨cs,rest,rfl,hx,hr⟩:=hc
    have hx':cs=[Value.int .i64 x]:=hx
    rw [hx',Hb hr]; rfl
theorem Md (h:Ac):∀ (l:List Int),Ae h l (l.map (Value.int .i64))
  | []=>rfl
  | x::l=>⟨[.int .i64 x],_,rfl,rfl,Md h l⟩
section
variable {P:Program} {N:Nat} {F:Fr} {h:Ac} {e:AJ} {pl:List C0} {rw:List Ca} {m:TM} {t:Array Value} {dd:List Deferred} {w w':World}
  {o:Oper} {K:Act→World→Prop} {Q:Exit→Act→World→Prop} {d:Nat}
theorem W9 {f:FuncId} {args:Array Operand} {tys:Array TypeId} {r:Ca} {l:List Int} (S:WN P f) (i:Nat) (hk:Kn N e m t) (hm:Ai F h e pl rw w) (hop:o.op=.call ⟨.value (.func f),args,tys⟩) (hd:o.dst=some d) (hlt:d<N)
    (hargs:II m args.toList=some [.c (.slice r.a r.n r.c)]) (hent:∀ args w,(callFunc f args).run P w=.ok (.enter f args) w) (hi:rw[i]? = some r) (hsz:r.sz=1) (hn:r.n=l.length) (hf:r.frz=0) (hc:Ae h l r.xs) (hlen:l.length<4611686018427387904)
    (hK:∀ t' w',Kn N e (m.put d (.tup [])) t'→Ai F h e pl (rw.set i ⟨r.a,r.n,r.c,r.E,r.sz,(Gq l).map (Value.int .i64),0⟩) w'→K ⟨t',dd⟩ w'):o.wp P ⟨t,dd⟩ w K Q:=by
  have h1:args.map (Act.mk t dd).eval=#[.slice r.a r.n r.c]:=by
    have:=Dw (dd:=dd) hk hargs
    apply Array.ext'
    rw [Array.toList_map,this]; rfl
  have hxs:=Hb hc
  have hcall:Calls P f #[.slice r.a r.n r.c] w fun en w'=>en=.returned (.tuple #[])∧Ai F h e pl (rw.set i ⟨r.a,r.n,r.c,r.E,r.sz,(Gq l).map (Value.int .i64),0⟩) w':=by
    have hrow:=hm.row hi
    rcases hrow.2 with⟨hv,h0⟩ | ⟨g,cap,cur,hv,hb,hg,q1,q2,q3,q4⟩
    · obtain⟨ra,rn,rc,rE,rsz,rxs,rfz⟩:=r
      simp only at *
      have ha:ra=none:=by simpa using congrArg (fun v=>match v with | Value.slice a _ _=>a | _=>none) hv
      subst ha
      have hl:l=[]:=List.eq_nil_of_length_eq_zero (by omega)
      subst hl
      subst h0
      refine(S.2 rc w).mono ?_
      rintro en w' ⟨rfl,rfl⟩
      refine⟨rfl,?_⟩
      have:rw.set i ⟨none,0,rc,rE,rsz,List.map (Value.int .i64) (Gq []),0⟩=rw:=by
        have hq:(⟨none,0,rc,rE,rsz,List.map (Value.int .i64) (Gq []),0⟩:Ca)=⟨none,0,rc,rE,rsz,rxs,rfz⟩:=by
          rw [hxs,hf,show Gq []=[] from by simp [Gq]]
        rw [hq]
        exact LQ hi
      rw [this]; exact hm
    obtain⟨ra,rn,rc,rE,rsz,rxs,rfz⟩:=r
    simp only at *
    simp only [Value.slice.injEq,true_and] at hv
    obtain⟨rfl,rfl⟩:=hv
    subst hn hsz
    have hhold:Go.Sort.Holds (Value.int .i64) w g 0 l.toArray:=holds_of_blockI hg (by rw [Nat.mul_one] at q4; rw [q4,hxs])
    have hlt:=(Array.getElem?_eq_some_iff.1 hg).1
    refine(S.1 g rc l w hhold hlt hlen).mono ?_
    rintro en w' ⟨rfl,n,os,rfl⟩
    refine⟨rfl,hm.setRow hi (r':=⟨some ⟨g,0,none⟩,l.length,rc,rE,1,(Gq l).map (Value.int .i64),0⟩) ?_ (fun o ho=>absurd ho (by simp [hf])) (fun v hv=>?_) (.inl ⟨rfl,hf.symm,grownBy_sortedI _⟩)⟩
    · exact ownsRow_sortedI (by rw [Qp]) hb hg q1 q2 q3
    obtain⟨x,_,rfl⟩:=List.mem_map.1 hv; rfl
  unfold Oper.wp execOp
  simp only [hop,resolve,h1]
  simp only [Act.eval,Deferred.ofValue,Sem.run_bind,Sem.run_pure,Result.andThen_ok,invoke,Array.empty_append,Array.append_empty,hent,Oper.upon]
  refine hcall.mono ?_
  rintro en w' ⟨rfl,hm'⟩
  show K _ _
  rw [CV t dd hd]
  exact hK _ _ (hk.put hlt (.tup [])) hm'
where
  LQ {α:Type} {l:List α} {i:Nat} {x:α} (h:l[i]? = some x):l.set i x=l:=by
    apply List.ext_getElem?
    intro j
    by_cases hj:i=j
    · subst hj
      have hlt:i<l.length:=(List.getElem?_eq_some_iff.1 h).1
      rw [List.getElem?_set_self hlt,h]
    rw [List.getElem?_set_ne hj]
theorem VN {f:FuncId} {args:Array Operand} {tys:Array TypeId} {R:Ac→Value→Prop} (vs:List SA) (vals:Array Value) (hk:Kn N e m t) (hm:Ai F h e pl rw w) (hop:o.op=.call ⟨.value (.func f),args,tys⟩) (hd:o.dst=some d) (hlt:d<N)
    (hargs:II m args.toList=some vs) (hvals:(vs.map (SA.den e)).toArray=vals) (hent:∀ args w,(callFunc f args).run P w=.ok (.enter f args) w) (hcall:Calls P f vals w (CP R h w))
    (hK:∀ v h' w',R h' v→Ac.le h h'→Ai F h' e pl rw w'→(∃ sv:SV,sv.den e=v∧∀ t',Kn N e (m.put d sv) t'→K ⟨t',dd⟩ w') ∨
      (∃ (b:Nat)(sv:SV),QT e.length m=true∧sv.den (e++[(b,0)])=v∧∀ t',Kn N (e++[(b,0)]) (m.put d sv) t'→K ⟨t',dd⟩ w')):o.wp P ⟨t,dd⟩ w K Q:=by
  subst hvals
  have h1:args.map (Act.mk t dd).eval=(vs.map (SA.den e)).toArray:=by
    rw [← Dw (dd:=dd) hk hargs]
    apply Array.ext'
    rw [Array.toList_map]
  unfold Oper.wp execOp
  simp only [hop,resolve,h1]
  simp only [Act.eval,Deferred.ofValue,Sem.run_bind,Sem.run_pure,Result.andThen_ok,invoke,Array.empty_append,Array.append_empty,hent,Oper.upon]
  refine hcall.mono ?_
  rintro en w' ⟨v,h',rfl,hb,hle,hn,hR⟩
  show K _ _
  rcases hK v h' w' hR hle (hm.call hb hle hn) with⟨sv,hsv,hk'⟩ | ⟨b,sv,hok,hsv,hk'⟩
  · rw [CV t dd hd,← hsv]
    exact hk' _ (hk.put hlt sv)
  rw [CV t dd hd,← hsv]
  exact hk' _ ((hk.push (b,0) hok).put hlt sv)
def VO {α:Type} (xs:List α) (hi:Int):Option (List α):=if 0≤hi∧hi≤xs.length then some (xs.take hi.toNat) else none
theorem Tx {α:Type} {xs ys:List α} {hi:Int} (h:VO xs hi=some ys):0≤hi∧hi≤xs.length∧ys=xs.take hi.toNat:=by
  unfold VO at h
  split at h
  · rename_i h1; exact⟨h1.1,h1.2,(Option.some.inj h).symm⟩
  cases h
theorem At.take {α:Type} [Rep α] {a:Option Addr} {xs:List α} {c:Nat} (hr:At h a c xs) (n:Nat):At h a c (xs.take n):=by
  obtain⟨vs,h1,h2,hc⟩:=hr
  refine⟨_,h1.take n,fun o x hx=>?_,by rw [List.length_take]; omega⟩
  rw [List.getElem?_take] at hx
  split at hx
  · exact h2 _ _ hx
  cases hx
theorem At.cap {α:Type} [Rep α] {a:Option Addr} {xs:List α} {c:Nat} (hr:At h a c xs):xs.length≤c:=by
  obtain⟨_,_,_,h⟩:=hr
  exact h
theorem Ty {x hi:Operand} {T E:TypeId} {a:Option Addr} {n c sz n':Nat} {l:Int} {d:List Deferred} (hk:Kn N e m t) (hop:o.op=.slice T x none (some hi) none) (hx:DR m x=some (.c (.slice a n c))) (hlo:DR m hi=some (.c (.int .i64 l)))
    (hT:P.underlying T=some (.slice E)) (hE:FW P E=some sz) (h0:0≤l) (h1:l≤c) (hn:l.toNat=n') :
    (execOp (Act.mk t d).eval o).run P w=.ok (.value (.slice a n' c)) w:=by
  subst hn
  have hxe:=Ap (d:=d) hk hx
  have hye:=Ap (d:=d) hk hlo
  simp only [SA.den,SC.den] at hxe hye
  unfold execOp
  simp only [hop,Option.map,hxe,hye,Instr.sliceAt,Instr.slice,Instr.sliceBounds,Instr.sliceBound,asIntOf,Sem.run_bind,Sem.run_pure,Result.andThen_ok,run_underlying hT,h0,h1,and_self,if_true,BP w hE]
  simp
  intro _
  cases a with
  | none=>rfl
  | some b=>cases b; rfl
end
end Go.Proofs.YtinminkmefljbaaGreat
