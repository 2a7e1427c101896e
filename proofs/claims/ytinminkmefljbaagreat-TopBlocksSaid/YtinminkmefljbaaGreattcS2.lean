/- What a printed proof leans on: memory that is read, and steps through a region. -/
import Derived.Test.YtinminkmefljbaaGreattcS1
import Derived.Scope
set_option linter.all false
namespace Go.Proofs.YtinminkmefljbaaGreat
open Go Go.RowKit
open Rep (rep)
section
variable {P:Program} {ops:Array Oper} {X:List Nat} {Q:Exit→Act→World→Prop} {N:Nat} {F:Fr} {h:Ac} {e:AJ} {pl:List C0} {rw:List Ca} {w:World} {m:TM} {t:Array Value} {dd:List Deferred} {o:Oper} {d:Nat} {K:Act→World→Prop}
theorem Ai.settlePlc {i:Nat} {T:TypeId} {cs:List SC} (hm:Ai F h e pl rw w) (hp:pl[i]? = some ⟨cs,some T⟩) :
    ∃ h',Ac.le h h'∧(∀ j c,cs[j]? = some c→h' (e.blk i).1 ((e.blk i).2+j)=some (c.den e))∧Ai F h' e (pl.set i ⟨cs,none⟩) rw w:=by
  obtain⟨ow,m⟩:=hm
  have hpi:=m.pls i _ hp
  unfold Cq at hpi
  obtain⟨ho,h0,hh,hn⟩:=hpi
  have hlt:i<pl.length:=(List.getElem?_eq_some_iff.1 hp).1
  let h':Ac:=fun b o=>if b=(e.blk i).1 then(cs.map (SC.den e))[o]? else h b o
  have hle:Ac.le h h':=fun b o v hx=>by
    by_cases hb:b=(e.blk i).1
    · rw [hb,hn o] at hx; cases hx
    simp only [h',hb,if_false]; exact hx
  have hlo:=m.ows _ _ ho
  have hnew:∀ b o x,h' b o=some x→h b o=some x∨(b=(e.blk i).1∧(cs.map (SC.den e))[o]? = some x):=fun b o x hx=>by
    by_cases hb:b=(e.blk i).1
    · right; simp only [h',hb,if_true] at hx; exact⟨hb,hx⟩
    left; simp only [h',hb,if_false] at hx; exact hx
  refine⟨h',hle,fun j c hj=>?_,fun b=>if b=(e.blk i).1 then none else ow b,m.below,Ac.le_trans m.le hle,?_,?_,?_,?_,?_,?_,fun k x hx=>?_⟩
  · simp only [h',if_true,h0,Nat.zero_add]; exact Ak hj
  · intro b o x hx
    rcases hnew b o x hx with h1 | ⟨h1,_⟩
    · exact m.old b o x h1
    right; rw [h1]; exact hlo.1
  · intro b o x hx
    rcases hnew b o x hx with h1 | ⟨h1,h2⟩
    · exact m.has b o x h1
    subst h1
    refine⟨hlo.2,JT ?_ (by obtain⟨c,_,rfl⟩:=List.mem_map.1 (List.mem_of_getElem? h2); exact SC.den_isTup e c)⟩
    simp only [World.cell?,hh]
    simpa using h2
  · intro b x hx
    by_cases hb:b=(e.blk i).1
    · simp [hb] at hx
    simp only [hb,if_false] at hx; exact m.ows b x hx
  · intro b o x j hx hj
    by_cases hb:b=(e.blk i).1
    · simp [hb] at hj
    simp only [hb,if_false] at hj
    simp only [h',hb,if_false] at hx
    exact m.hown b o x j hx hj
  · intro j p hj
    by_cases hji:j=i
    · subst hji
      rw [List.getElem?_set_self hlt] at hj
      cases hj
      unfold Cq
      intro k c hk
      simp only [h',if_true,h0,Nat.zero_add]; exact Ak hk
    rw [List.getElem?_set_ne (Ne.symm hji)] at hj
    have:=m.pls j p hj
    unfold Cq at this ⊢
    split at this
    · obtain⟨q1,q2,q3,q4⟩:=this
      have hb:(e.blk j).1≠(e.blk i).1:=fun hb=>by rw [hb,ho] at q1; simp at q1; exact hji q1.symm
      refine⟨by simp only [hb,if_false]; exact q1,q2,q3,fun o=>?_⟩
      simp only [h',hb,if_false]; exact q4 o
    exact fun k c hk=>hle _ _ _ (this k c hk)
  · intro j r hr
    obtain⟨q1,q2,q3,q9⟩:=m.rws j r hr
    refine⟨q1,q2,fun ad ha=>?_,q9⟩
    obtain⟨q4,q5,q6⟩:=q3 ad ha
    have hb:ad.block≠(e.blk i).1:=fun hb=>by rw [hb,ho] at q4; cases q4
    refine⟨by simp only [hb,if_false]; exact q4,fun o ho'=>?_,fun o ho'=>?_⟩
    · simp only [h',hb,if_false]; exact q5 o ho'
    simp only [h',hb,if_false]; exact q6 o ho'
  obtain⟨h1,h2,h3,h4,h5⟩:=m.ext k x hx
  have hb:k≠(e.blk i).1:=fun hb=>by rw [hb,ho] at h4; cases h4
  exact⟨h1,h2,h3,by simp only [hb,if_false]; exact h4,h5.same fun o=>by simp only [h',hb,if_false]⟩
def B9 {α:Type} [Rep α] (h:Ac) (b:Nat) (x:α):Prop:=∃ cs,rep h x cs∧∀ j c,cs[j]? = some c→h b j=some c
theorem B9.mono {α:Type} [Rep α] {h h':Ac} {b:Nat} {x:α} (hle:Ac.le h h'):B9 h b x→B9 h' b x:=fun⟨cs,h1,h2⟩=>⟨cs,Rep.mono hle h1,fun j c hj=>hle _ _ _ (h2 j c hj)⟩
theorem B9.of {α:Type} [Rep α] {b:Nat} {x:α} {cs:List SC} {vs:List Value} (h1:rep h x vs) (hv:cs.map (SC.den e)=vs) (h2:∀ j c,cs[j]? = some c→h b (0+j)=some (c.den e)):B9 h b x :=
  ⟨vs,h1,fun j c hj=>by
    rw [← hv,List.getElem?_map] at hj
    cases hc:cs[j]? with
    | none=>rw [hc] at hj; cases hj
    | some x=>rw [hc] at hj; cases hj; rw [← h2 j x hc,Nat.zero_add]⟩
theorem DZ {f:FuncId} {fn:Func} {c:Code} {R:Ending→World→Prop} {vals:Array Value} (N:Nat) (vs:List SA) (hf:P.funcs[f]? = some fn) (hb:fn.body=some c) (hN:fn.ntmps=N) (hn:decide (vs.length≤N)=true) (hv:(vs.map (SA.den e)).toArray=vals)
    (H:∀ t,Kn N e (N4 0 vs) t→c.wp P (bodyPost P fn R) ⟨t,[]⟩ w):Calls P f vals w R:=by
  subst hv
  have hn:vs.length≤N:=by simpa using hn
  refine calls_of_wp hf hb (H _ ⟨by simp [hN]; omega,fun k v hk=>?_⟩)
  obtain⟨i,h1,h2⟩:=JU e vs 0 k v hk
  obtain rfl:k=i:=by omega
  have hlt:k<(vs.map (SA.den e)).length:=by
    rcases Nat.lt_or_ge k (vs.map (SA.den e)).length with h' | h'
    · exact h'
    rw [List.getElem?_eq_none h'] at h2; cases h2
  rw [Array.getElem?_append_left (by simpa using hlt)]
  simpa using h2
def H7 (P:Program) (v:Value) (args:Array Value) (w:World) (R:Ending→World→Prop):Prop :=
  ∃ f first cap,v=.func (.func f) first cap∧(∀ as w,(callFunc f as).run P w=.ok (.enter f as) w)∧Calls P f (first++args++cap) w R
theorem D2 (v0:SC) {x:Operand} {args:Array Operand} {tys:Array TypeId} {R:Ac→Value→Prop} (vs:List SA) (vals:Array Value) (hk:Kn N e m t) (hm:Ai F h e pl rw w) (hop:o.op=.call ⟨.value x,args,tys⟩) (hd:o.dst=some d) (hlt:d<N)
    (hx:DR m x=some (.c v0)) (hargs:II m args.toList=some vs) (hvals:(vs.map (SA.den e)).toArray=vals) (hcall:H7 P (v0.den e) vals w (CP R h w))
    (hK:∀ v h' w',R h' v→Ac.le h h'→Ai F h' e pl rw w'→∃ sv:SV,sv.den e=v∧∀ t',Kn N e (m.put d sv) t'→K ⟨t',dd⟩ w'):o.wp P ⟨t,dd⟩ w K Q:=by
  subst hvals
  have h1:args.map (Act.mk t dd).eval=(vs.map (SA.den e)).toArray:=by
    rw [← Dw (dd:=dd) hk hargs]
    apply Array.ext'
    rw [Array.toList_map]
  obtain⟨f,first,cap,hv,hent,hcall⟩:=hcall
  have hxe:=Ap (d:=dd) hk hx
  simp only [SA.den,hv] at hxe
  unfold Oper.wp execOp
  simp only [hop,resolve,h1,hxe]
  simp only [Deferred.ofValue,Sem.run_bind,Sem.run_pure,Result.andThen_ok,invoke,hent,Oper.upon]
  refine hcall.mono ?_
  rintro en w' ⟨v,h',rfl,hb,hle,hn,hR⟩
  obtain⟨sv,hsv,hk'⟩:=hK v h' w' hR hle (hm.call hb hle hn)
  show K _ _
  rw [CV t dd hd,← hsv]
  exact hk' _ (hk.put hlt sv)
theorem VA {f:FuncId} {first cap:Array Operand} {fs cs:List SA} {d:List Deferred} (hk:Kn N e m t) (hop:o.op=.makeFunc (.func f) first cap) (hf:II m first.toList=some fs) (hc:II m cap.toList=some cs) :
    (execOp (Act.mk t d).eval o).run P w=.ok (.value (.func (.func f) (fs.map (SA.den e)).toArray (cs.map (SA.den e)).toArray)) w:=by
  have h1:first.map (Act.mk t d).eval=(fs.map (SA.den e)).toArray:=by
    rw [← Dw (dd:=d) hk hf]
    apply Array.ext'
    rw [Array.toList_map]
  have h2:cap.map (Act.mk t d).eval=(cs.map (SA.den e)).toArray:=by
    rw [← Dw (dd:=d) hk hc]
    apply Array.ext'
    rw [Array.toList_map]
  unfold execOp
  simp only [hop,h1,h2]
  rfl
theorem Ey {f:FuncId} {first cap:Array Operand} {fs cs:List SA} {d:List Deferred} (i:Nat) {oi:Oper} {dd:Nat} (va vb:Array Value) (hk:Kn N e m t) (hi:ops[i]? = some oi) (hop:oi.op=.makeFunc (.func f) first cap) (hg:Region.wanted oi (yielded ops t)=true) (hdst:oi.dst=some dd) (hlt:dd<N)
    (hf:II m first.toList=some fs) (hc:II m cap.toList=some cs) (ha:(fs.map (SA.den e)).toArray=va) (hb:(cs.map (SA.den e)).toArray=vb)
    (H:∀ t',Kn N e (m.put dd (.one (.c (.func (.func f) va vb)))) t'→Cc P ops Q (i+1) ⟨t',d⟩ w):Cc P ops Q i ⟨t,d⟩ w:=by
  subst ha hb
  exact Eg i (.one (.c (.func (.func f) _ _))) hi hg hdst (VA hk hop hf hc) (hk.put hlt _) H
def sub {α:Type} (xs:List α) (lo:Int):Option (List α):=if 0≤lo∧lo≤xs.length then some (xs.drop lo.toNat) else none
theorem VB {α:Type} {xs ys:List α} {lo:Int} (h:sub xs lo=some ys):0≤lo∧lo≤xs.length∧ys=xs.drop lo.toNat:=by
  unfold sub at h
  split at h
  · rename_i h1; cases h; exact⟨h1.1,h1.2,rfl⟩
  cases h
theorem Ae.drop {α:Type} [Rep α]:∀ {xs:List α} {vs:List Value},Ae h xs vs→∀ n,n≤xs.length→Ae h (xs.drop n) (vs.drop (n*Rep.sz α))
  | _,_,hc,0,_=>by simpa using hc
  | [],vs,hc,n+1,hn=>by simp at hn
  | x::r,vs,⟨c1,c2,e,h1,h2⟩,n+1,hn=>by
    subst e
    have hl:=Rep.len h1
    rw [List.drop_succ_cons,show(n+1)*Rep.sz α=c1.length+n*Rep.sz α by rw [hl,Nat.add_mul]; omega,List.drop_append,List.drop_of_length_le (l:=c1) (by omega),List.nil_append]
    rw [show c1.length+n*Rep.sz α-c1.length=n*Rep.sz α by omega]
    exact Ae.drop h2 n (by simpa using hn)
theorem At.isNil {α:Type} [Rep α] {a:Option Addr} {c:Nat} {xs:List α} (hr:At h a c xs) (hs:0<Rep.sz α) (ha:a.isNone=true):xs=[]:=by
  obtain⟨vs,h1,h2,_⟩:=hr
  cases xs with
  | nil=>rfl
  | cons x r =>
    have hl:=h1.len
    have:0<vs.length:=by rw [hl,List.length_cons,Nat.add_mul]; omega
    obtain⟨ad,e1,_⟩:=h2 0 _ (List.getElem?_eq_getElem this)
    subst e1; cases ha
def HS (sz:Nat) (a:Option Addr) (c l:Nat):Option Addr:=if c=l then a else a.map (·.add (l*sz))
theorem VC (ad:Addr) (k:Nat) (h:ad.spot=none):(ad.add k).block=ad.block∧(ad.add k).off=ad.off+k∧(ad.add k).spot=none:=by
  cases ad
  simp only at h
  subst h
  unfold Addr.add
  split
  · rename_i h0; subst h0; simp
  simp
theorem At.drop {α:Type} [Rep α] {a:Option Addr} {xs:List α} {sz c n:Nat} (hs:Rep.sz α=sz) (hr:At h a c xs) (hn:n≤xs.length):At h (HS sz a c n) (c-n) (xs.drop n):=by
  obtain⟨vs,h1,h2,hc⟩:=hr
  refine⟨_,h1.drop n hn,fun o x hx=>?_,by rw [List.length_drop]; omega⟩
  rw [List.getElem?_drop] at hx
  obtain⟨ad,e1,e2,e3⟩:=h2 _ _ hx
  subst e1 hs
  unfold HS
  split
  · rename_i hcn
    have hlt:=(List.getElem?_eq_some_iff.1 hx).1
    rw [h1.len,show xs.length=n by omega] at hlt
    omega
  obtain⟨q1,q2,q3⟩:=VC ad (n*Rep.sz α) e2
  exact⟨_,rfl,q3,by rw [q1,q2,Nat.add_assoc]; exact e3⟩
theorem Ai.rowCap {i:Nat} {r:Ca} (hm:Ai F h e pl rw w) (hi:rw[i]? = some r):r.n≤r.c:=by
  obtain⟨_,h1 | ⟨g,cap,cur,h1,_,_,h2,_⟩⟩:=hm.row hi
  · obtain⟨h1,h2⟩:=h1; rw [h2]; exact Nat.zero_le _
  simp only [Value.slice.injEq] at h1; rw [h1.2.2]; exact h2
theorem UJ {x lo:Operand} {T E:TypeId} {a:Option Addr} {n c sz:Nat} {l:Int} {d:List Deferred} (hk:Kn N e m t) (hop:o.op=.slice T x (some lo) none none) (hx:DR m x=some (.c (.slice a n c))) (hlo:DR m lo=some (.c (.int .i64 l)))
    (hT:P.underlying T=some (.slice E)) (hE:FW P E=some sz) (h0:0≤l) (h1:l≤n) :
    (execOp (Act.mk t d).eval o).run P w=.ok (.value (.slice (HS sz a c l.toNat) (n-l.toNat) (c-l.toNat))) w:=by
  have hxe:=Ap (d:=d) hk hx
  have hye:=Ap (d:=d) hk hlo
  simp only [SA.den,SC.den] at hxe hye
  unfold execOp
  simp only [hop,Option.map,hxe,hye,Instr.sliceAt,Instr.slice,Instr.sliceBounds,Instr.sliceBound,asIntOf,Sem.run_bind,Sem.run_pure,Result.andThen_ok,run_underlying hT,h0,h1,and_self,if_true,BP w hE]
  rfl
theorem W2 {x lo:Operand} {T E:TypeId} {a:Option Addr} {n c:Nat} {l:Int} {d:List Deferred} {done:List Nat} (i:Nat) {oi:Oper} {dd:Nat} (sz n':Nat) (hQ:QP Q) (hk:Kn N e m t) (hi:ops[i]? = some oi) (hop:oi.op=.slice T x (some lo) none none) (hg:Region.wanted oi (yielded ops t)=true) (hdst:oi.dst=some dd) (hlt:dd<N)
    (hs:Region.noSelect ops=true) (hf:KF ops X done i=true) (hS:Ay e pl w) (hx:DR m x=some (.c (.slice a n c))) (hlo:DR m lo=some (.c (.int .i64 l))) (hT:P.underlying T=some (.slice E)) (hE:FW P E=some sz) (h0:0≤l) (h1:l≤n) (hn:n-l.toNat=n')
    (H:∀ t',Kn N e (m.put dd (.one (.c (.slice (HS sz a c l.toNat) n' (c-l.toNat))))) t'→FK P ops X Q e pl (i::done) ⟨t',d⟩ w):FK P ops X Q e pl done ⟨t,d⟩ w:=by
  subst hn
  exact Jn i (.one (.c (.slice _ _ _))) hQ hi hs hf hg hdst hS (fun _ h=>h) (fun _=>UJ hk hop hx hlo hT hE h0 h1) (hk.put hlt _) H
def As (h:Ac) (b:Nat) (vs:List Value):Prop:=∀ j v,vs[j]? = some v→h b j=some v
theorem As.mono {h h':Ac} {b:Nat} {vs:List Value} (hle:Ac.le h h'):As h b vs→As h' b vs:=fun H j v hj=>hle _ _ _ (H j v hj)
theorem As.of {b:Nat} {cs:List SC} {vs:List Value} (hv:cs.map (SC.den e)=vs) (h2:∀ j c,cs[j]? = some c→h b (0+j)=some (c.den e)):As h b vs:=fun j c hj=>by
  rw [← hv,List.getElem?_map] at hj
  cases hc:cs[j]? with
  | none=>rw [hc] at hj; cases hj
  | some x=>rw [hc] at hj; cases hj; rw [← h2 j x hc,Nat.zero_add]
theorem Ae.take {α:Type} [Rep α]:∀ {xs:List α} {vs:List Value},Ae h xs vs→∀ n,Ae h (xs.take n) (vs.take (n*Rep.sz α))
  | _,_,_,0=>by simp; rfl
  | [],vs,hc,n+1=>by rw [show vs=[] from hc]; simp; rfl
  | x::r,vs,⟨c1,c2,e,h1,h2⟩,n+1=>by
    subst e
    have hl:=Rep.len h1
    rw [List.take_succ_cons,show(n+1)*Rep.sz α=c1.length+n*Rep.sz α by rw [hl,Nat.add_mul]; omega,List.take_append,List.take_of_length_le (l:=c1) (by omega)]
    rw [show c1.length+n*Rep.sz α-c1.length=n*Rep.sz α by omega]
    exact⟨c1,_,rfl,h1,Ae.take h2 n⟩
end
end Go.Proofs.YtinminkmefljbaaGreat
