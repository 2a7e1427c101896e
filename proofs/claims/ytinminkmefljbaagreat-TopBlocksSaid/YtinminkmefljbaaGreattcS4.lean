/- What a printed proof leans on: memory that is read, and steps through a region. -/
import Derived.Test.YtinminkmefljbaaGreattcS3
import Derived.RangeFuncIn
import Derived.RangeFuncCalls
import Derived.RangeFuncLeaves
import Derived.DeepKeys3
set_option linter.all false
namespace Go.Proofs.YtinminkmefljbaaGreat
open Go Go.RowKit
open Rep (rep)
open KRep (kv)
open VRep (rv)
abbrev W3 (l:Nat):Fence:=Fence.wide.inRound l
def LR (ops:Array Oper):Bool:=ops.toList.all fun o=>match o.op with | .defer _=>false | _=>true
section
variable {P:Program} {ops:Array Oper} {Q:Exit→Act→World→Prop} {n:Nat}
theorem Sp {l:Nat} {row:String} {args:Array Value} {w:World} {R:Value→World→Prop} (h:Rows P row args w R):RowsIn (W3 l) n P row args w R :=
  fun c cs _=>let ⟨v,w',r,s⟩:=h c cs; ⟨v,w',r,stepsIn_wide.2 s⟩
theorem XJ (l:Nat) {o:Oper} {a:Act} {w:World} {K K':Act→World→Prop} (hQ : ¬ LetsOut Q) (ho:∀ c,o.op≠.defer c) (hK:∀ a w,K a w→K' a w) (h:o.wp P a w K Q):o.wpIn (W3 l) n P a w K' Q:=by
  refine⟨fun _ _=>trivial,?_⟩
  rw [show(W3 l).round=some l from rfl,Oper.semAt_eq _ _ _ ho]
  unfold Oper.wp at h
  generalize (execOp a.eval o).run P w=r at h
  cases r with
  | ok x w' =>
    cases x with
    | value v=>exact hK _ _ h
    | skip=>exact hK _ _ h
    | defer d=>exact hK _ _ h
    | enter f args =>
      refine⟨fun hh=>by simp [Fence.wide] at hh,?_⟩
      refine CallsIn.inRound l (callsIn_wide.2 ?_)
      refine Calls.mono h fun e w'' he=>?_
      cases e with
      | returned v=>exact hK _ _ he
      | panicked chain=>exact he
      | outgrown=>exact he
    | row row args=>exact⟨fun hh=>by simp [Fence.wide] at hh,Sp (Rows.mono h fun v w'' hv=>hK _ _ hv)⟩
    | _=>exact h.elim
  | halt x w' =>
    cases x with
    | panic v=>exact h
    | _=>exact h.elim
theorem Sq (l:Nat) (hQ : ¬ LetsOut Q) (hd:LR ops=true):∀ (is:List Nat)(a:Act)(w:World),wpOps P ops Q is a w→wpOpsIn (W3 l) n P ops Q is a w
  | [],_,_,h=>h
  | i::is,a,w,h=>by
    unfold wpOps at h
    unfold wpOpsIn
    cases ho:ops[i]? with
    | none=>rw [ho] at h; exact Sq l hQ hd is a w h
    | some o =>
      rw [ho] at h
      simp only at h ⊢
      split at h
      · rename_i hw
        rw [if_pos hw]
        have hnd:∀ c,o.op≠.defer c:=fun c hc=>by
          have:=List.all_eq_true.1 hd o (List.mem_of_getElem? (by rw [Array.getElem?_toList]; exact ho))
          rw [hc] at this
          cases this
        rcases h with h | ⟨_,h⟩
        · exact XJ l hQ hnd (Sq l hQ hd is) h
        exact absurd h hQ
      rename_i hw
      rw [if_neg hw]
      exact⟨fun _ _=>trivial,Sq l hQ hd is _ w h⟩
theorem Tq {l id:Nat} {a:Act} {w:World} (hQ : ¬ LetsOut Q) (hd:LR ops=true) (h:Cc P ops Q 0 a w):(Code.region id ops false).wpIn (W3 l) n P Q a w:=by
  refine wpIn_region (Sq l hQ hd _ _ _ ?_)
  unfold Cc at h
  rw [List.range_eq_range']
  exact h
theorem QX {l id:Nat} {a:Act} {w:World} (hQ : ¬ LetsOut Q) (hd:LR ops=true) (hm:P.follows .mixedOrders=true) (h:Wf P ops Q [] a w.drew):(Code.region id ops true).wpIn (W3 l) n P Q a w:=by
  refine wpIn_region_draw fun t=>Sq l hQ hd _ _ _ ?_
  simp only [Region.schedule,hm,Bool.true_or,if_true]
  refine wpAny_sound ops.size t _ a _ ?_
  unfold Wf at h
  simpa [AY] using h
end
open Go Go.RowKit
open Rep (rep)
open KRep (kv)
open VRep (rv)
def Yields (P:Program) (l:Nat) (args:Array Value) (w:World) (R:Bool→World→Prop):Prop :=
  ∃ r:Loop,w.heap[l]? = some (.loop r)∧args.size=r.params.size ∧
    RoundIn Fence.wide 0 P l r.fn ((r.params.zip args).foldl (fun tmps (t,a)=>tmps.setIfInBounds t a) r.tmps) r.assign r.body w (fun e w'=>∃ b,e=.returned (.bool b)∧R b w')
section
variable {P:Program} {ops:Array Oper} {X:List Nat} {Q:Exit→Act→World→Prop} {N:Nat} {F:Fr} {h:Ac} {e:AJ} {pl:List C0} {rw:List Ca} {w w':World} {m:TM} {t:Array Value} {d:List Deferred}
def CZ (P:Program) (ops:Array Oper) (Q:Exit→Act→World→Prop) (i:Nat) (a:Act) (w:World):Prop:=wpOpsIn Fence.wide 0 P ops Q (List.range' i (ops.size-i)) a w
theorem IA {id:Nat} {a:Act} (h:CZ P ops Q 0 a w):(Code.region id ops false).wp P Q a w:=by
  refine wpIn_wide.1 (wpIn_region (n:=0) ?_)
  unfold CZ at h
  rw [List.range_eq_range']
  simpa using h
theorem Ju {i:Nat} {a:Act} (hi:ops.size≤i) (h:Q .normal a w):CZ P ops Q i a w:=by
  unfold CZ
  rw [show ops.size-i=0 by omega]
  exact h
theorem KJ {i:Nat} {a:Act} {o:Oper} (ho:ops[i]? = some o)
    (h:if Region.wanted o (yielded ops a.tmps) then o.wpIn Fence.wide 0 P a w (CZ P ops Q (i+1)) Q else CZ P ops Q (i+1) (a.put o.dst undef) w):CZ P ops Q i a w:=by
  have hi:i<ops.size:=(Array.getElem?_eq_some_iff.1 ho).1
  unfold CZ
  rw [show ops.size-i=(ops.size-(i+1))+1 by omega,List.range'_succ]
  unfold wpOpsIn
  simp only [ho]
  split
  · rename_i hw; rw [if_pos hw] at h; exact h
  rename_i hw; rw [if_neg hw] at h; exact⟨fun _ _=>trivial,h⟩
theorem XN {o:Oper} {a:Act} {w:World} {K:Act→World→Prop} (h:o.wp P a w K Q):o.wpIn Fence.wide 0 P a w K Q:=by
  refine⟨fun _ _=>trivial,?_⟩
  rw [show Fence.wide.round=none from rfl,Oper.semAt_none]
  unfold Oper.wp at h
  generalize (execOp a.eval o).run P w=r at h
  cases r with
  | ok x w' =>
    cases x with
    | value v=>exact h
    | skip=>exact h
    | defer d=>exact h
    | enter f args=>exact⟨fun hh=>by simp [Fence.wide] at hh,callsIn_wide.2 h⟩
    | row row args=>exact⟨fun hh=>by simp [Fence.wide] at hh,fun c cs _=>let ⟨v,w',r,s⟩:=h c cs; ⟨v,w',r,stepsIn_wide.2 s⟩⟩
    | _=>exact h.elim
  | halt x w' =>
    cases x with
    | panic v=>exact h
    | _=>exact h.elim
theorem QY {i:Nat} {a:Act} (o:Oper) (hi:ops[i]? = some o) (hw:Region.wanted o (yielded ops a.tmps)=true)
    (h:∀ K:Act→World→Prop,(∀ a' w',CZ P ops Q (i+1) a' w'→K a' w')→o.wp P a w K Q):CZ P ops Q i a w :=
  KJ hi (by rw [if_pos hw]; exact XN (h _ fun _ _ h=>h))
theorem N6 (hp:Ay e pl w):∀ (n i:Nat)(m m':TM)(t:Array Value),Kn N e m t→PC P ops N pl i n m=some m' →
    (∀ t',Kn N e m' t'→CZ P ops Q (i+n) ⟨t',d⟩ w)→CZ P ops Q i ⟨t,d⟩ w
  | 0,i,m,m',t,hk,h,H=>by
    simp [PC] at h; subst h
    exact H t hk
  | n+1,i,m,m',t,hk,h,H=>by
    unfold PC at h
    split at h
    · rename_i m1 h1
      obtain⟨o,v,ho,hk',hd,hv,_⟩:=Ji (d:=d) hk h1
      have hrest:CZ P ops Q (i+1) ((Act.mk t d).put o.dst v) w:=by
        have:=N6 hp n (i+1) m1 m' _ hk' h (fun t' hk''=>by rw [show i+1+n=i+(n+1) by omega]; exact H t' hk'')
        have e:(Act.mk t d).put o.dst v=Act.mk ((Act.mk t d).put o.dst v).tmps d:=QN hd
        rw [e]; exact this
      refine KJ ho ?_
      rcases hv with⟨hw,hv⟩ | ⟨hw,rfl⟩
      · rw [if_pos hw]
        refine XN ?_
        unfold Oper.wp Oper.upon
        rw [hv w hp]
        exact hrest
      rw [if_neg (by rw [hw]; simp)]
      exact hrest
    simp at h
theorem Iz (i n:Nat) (ks:List Nat) (m':TM) (hk:Kn N e m t) (hp:Ay e pl w) (h:(PC P ops N pl i n m).map (fun x=>FV x ks)=some m')
    (H:∀ t',Kn N e m' t'→CZ P ops Q (i+n) ⟨t',d⟩ w):CZ P ops Q i ⟨t,d⟩ w:=by
  obtain⟨m1,h1,rfl⟩:=Option.map_eq_some_iff.1 h
  exact N6 hp n i m m1 t hk h1 fun t' hk'=>H t' (hk'.sub (Fh _ _))
theorem Sr {x:Operand} {args:Array Operand} {tys:Array TypeId} {l:Nat} {R:Bool→World→Prop} (i:Nat) {o:Oper} {dd:Nat} (vs:List SA) (vals:Array Value) (hk:Kn N e m t) (hi:ops[i]? = some o) (hop:o.op=.call ⟨.value x,args,tys⟩)
    (hg:Region.wanted o (yielded ops t)=true) (hdst:o.dst=some dd) (hlt:dd<N) (hx:DR m x=some (.c (.func (.yield l) #[] #[]))) (hargs:II m args.toList=some vs) (hvals:(vs.map (SA.den e)).toArray=vals)
    (hy:Yields P l vals w R) (H:∀ b w',R b w'→∀ t',Kn N e (m.put dd (.one (.c (.bool b)))) t'→CZ P ops Q (i+1) ⟨t',d⟩ w'):CZ P ops Q i ⟨t,d⟩ w:=by
  subst hvals
  have h1:args.map (Act.mk t d).eval=(vs.map (SA.den e)).toArray:=by
    rw [← Dw (dd:=d) hk hargs]
    apply Array.ext'
    rw [Array.toList_map]
  have hxe:=Ap (d:=d) hk hx
  simp only [SA.den,SC.den] at hxe
  obtain⟨r,hl,hs,hr⟩:=hy
  refine KJ hi ?_
  rw [if_pos hg]
  refine⟨fun _ _=>trivial,?_⟩
  rw [show Fence.wide.round=none from rfl,Oper.semAt_none]
  unfold execOp
  simp only [hop,resolve,h1,hxe]
  simp only [Deferred.ofValue,Sem.run_bind,Sem.run_pure,Result.andThen_ok,invoke,Array.empty_append,Array.append_empty,run_yield hl hs]
  refine⟨fun hh=>by simp [Fence.wide] at hh,RoundIn.mono hr ?_⟩
  rintro en w' ⟨b,rfl,hR⟩
  show CZ P ops Q (i+1) _ w'
  rw [CV t d hdst]
  exact H b w' hR _ (hk.put hlt (.one (.c (.bool b))))
theorem VE {fn:Func} {J:World→Prop} (hr:fn.results=#[]) (hJ:J w):bodyPost P fn (fun en w'=>en=.returned (.tuple #[])∧J w') .normal ⟨t,[]⟩ w:=by
  refine⟨rfl,.tuple #[],?_,rfl,hJ⟩
  simp [results,hr]
theorem VF {fn:Func} {J:World→Prop} (hr:fn.results=#[]) (hJ:J w):bodyPost P fn (fun en w'=>en=.returned (.tuple #[])∧J w') .ret ⟨t,[]⟩ w:=by
  refine⟨rfl,.tuple #[],?_,rfl,hJ⟩
  simp [results,hr]
end
open Go Go.RowKit
open Rep (rep)
open KRep (kv)
open VRep (rv)
section
variable {P:Program} {Q:Exit→Act→World→Prop} {w:World} {t:Array Value} {d:List Deferred}
def OU (l:Nat) (r:Loop) (R:Bool→World→Prop):Exit→Act→World→Prop
  | .normal,_,w=>w.heap[l]? = some (.loop { r with state:=.busy })∧R true (w.putObj l (.loop { r with state:=.ready,pending:=none }))
  | _,_,_=>False
theorem Ql {l:Nat} {r:Loop} {args:Array Value} {R:Bool→World→Prop} (hl:w.heap[l]? = some (.loop r)) (hs:args.size=r.params.size)
    (H:r.assign.wpIn (W3 l) 0 P (Exit.then (fun a w=>w.heap[l]? = some (.loop r)∧r.state=.ready∧r.body.wpIn (W3 l) 0 P (OU l r R) a (w.putObj l (.loop { r with state:=.busy }))) (fun _ _ _=>False))
      ⟨(r.params.zip args).foldl (fun tmps (t,a)=>tmps.setIfInBounds t a) r.tmps,[]⟩ w):Yields P l args w R:=by
  refine⟨r,hl,hs,roundIn_of_wpIn trivial (wpIn_mono H ?_)⟩
  intro e a w1 h
  cases e with
  | normal =>
    obtain⟨h1,h2,h3⟩:=h
    refine⟨_,run_beginRound h1 h2,wpIn_mono h3 ?_⟩
    intro e a w2 h
    cases e with
    | normal =>
      obtain⟨q1,q2⟩:=h
      refine⟨_,_,run_endRound none q1,true,rfl,?_⟩
      simpa using q2
    | _=>exact h.elim
  | _=>exact h.elim
def Fu (w:World) (r:Loop):World:=(w.alloc (.deferred (some []))).alloc (.loop r)
theorem VG {g:Operand} {ps:Array Tmp} {assign body:Code} {f:FuncId} {first cap:Array Value} (hg:(Act.mk t d).eval g=.func (.func f) first cap) (hent:∀ as w,(callFunc f as).run P w=.ok (.enter f as) w)
    (H:∀ fn:FuncId,Calls P f (first++#[.func (.yield (w.heap.size+1)) #[] #[]]++cap) (Fu w ⟨.ready,none,fn,t,ps,assign,body,w.heap.size⟩)
      (fun en w'=>en=.returned (.tuple #[])∧∃ r',w'.heap[w.heap.size+1]? = some (.loop r')∧r'.state≠.busy∧r'.pending=none ∧
        Q .normal ⟨t,[{ target:=.collected w.heap.size,args:=#[] }]++d⟩ (w'.putObj (w.heap.size+1) (.loop { r' with state:=.exhausted })))) :
    (Code.rangeFunc g ps assign body).wp P Q ⟨t,d⟩ w:=by
  refine wpIn_wide.1 (wpIn_rangeFunc (n:=0) fun fn _=>?_)
  refine⟨w.heap.size+1,[{ target:=.collected w.heap.size,args:=#[] }],Fu w ⟨.ready,none,fn,t,ps,assign,body,w.heap.size⟩,{ target:=.fn (.func f) cap,args:=first++#[.func (.yield (w.heap.size+1)) #[] #[]] },
    Fu w ⟨.ready,none,fn,t,ps,assign,body,w.heap.size⟩,f,first++#[.func (.yield (w.heap.size+1)) #[] #[]]++cap,Fu w ⟨.ready,none,fn,t,ps,assign,body,w.heap.size⟩,?_,?_,fun _ _=>trivial,?_,fun hh=>by simp [Fence.wide] at hh,?_⟩
  · exact run_enterLoop_outer _ _ _ _ _
  · simp only [resolve,rangeCall,hg,Deferred.ofValue,List.map_toArray,List.map_cons,List.map_nil]
    simp only [Act.eval]
    rfl
  · simp only [invoke,hent]
  refine callsIn_wide.2 (Calls.mono (H fn) ?_)
  rintro en w' ⟨rfl,r',h1,h2,h3,h4⟩
  refine⟨_,_,run_endLoop h1 h2,?_⟩
  split
  · exact h4
  rename_i hc; rw [h3] at hc; cases hc
end
open Go Go.RowKit
open Rep (rep)
open KRep (kv)
open VRep (rv)
open Go.ChangeMaps (setBlock)
def UL (b:Nat):Deferred:={ target:=.collected b,args:=#[] }
section
variable {P:Program} {Q:Exit→Act→World→Prop} {N:Nat} {F:Fr} {h:Ac} {e:AJ} {pl:List C0} {rw:List Ca} {w w':World} {m:TM} {t:Array Value}
theorem LS (w:World) (b:Nat) (o:Obj):w.grownBy (w.putObj b o) (some b):=Jt w b o
theorem LU {fn:Func} {R:Ac→Value→Prop} (sv:SV) (hk:Kn N e m t) (hr:QU P m pl fn.results.toList=some sv) (hR:R h (sv.den e)) :
    ∀ (bs:List Nat)(F:Fr)(w:World),Ai F h e pl rw w→bs.Nodup→(∀ b∈bs,F.X b=some (.deferred (some [])))→LeavesInM Fence.wide 0 P fn t (CP R F.h F.w) (bs.map UL) .returning w
  | [],F,w,hm,_,_=>by
    show LeavesIn Fence.wide 0 P fn t _ [] .returning w
    unfold LeavesIn
    exact⟨_,Ix hk hm.plOk hr,OO hm hR⟩
  | b::bs,F,w,hm,hn,hx=>by
    have hb:=hx b (by simp)
    obtain⟨n1,n2⟩:=List.nodup_cons.1 hn
    refine⟨by simp,.inl ⟨b,_,rfl,run_takeDeferred (hm.ext hb),?_⟩⟩
    have hm2:=hm.setX (o':=.deferred none) hb rfl (LS w b _) (World.putObj_heap_same (hm.extLt hb))
    refine LU sv hk hr hR bs (F.put b (some (.deferred none))) _ hm2 n2 fun c hc=>?_
    have hcb:c≠b:=fun hcb=>n1 (hcb▸hc)
    simp only [Fr.put,hcb,if_false]
    exact hx c (by simp [hc])
theorem W4 {fn:Func} {R:Ac→Value→Prop} (sv:SV) (bs:List Nat) (hk:Kn N e m t) (hm:Ai F h e pl rw w) (hn:bs.Nodup) (hx:∀ b∈bs,F.X b=some (.deferred (some []))) (hr:QU P m pl fn.results.toList=some sv) (hR:R h (sv.den e)) :
    bodyPostM Fence.wide 0 P fn (CP R F.h F.w) .ret ⟨t,bs.map UL⟩ w:=LU sv hk hr hR bs F w hm hn hx
theorem Xu {f:FuncId} {fn:Func} {c:Code} {R:Ending→World→Prop} {vals:Array Value} (N:Nat) (vs:List SA) (hf:P.funcs[f]? = some fn) (hb:fn.body=some c) (hN:fn.ntmps=N) (hn:decide (vs.length≤N)=true) (hv:(vs.map (SA.den e)).toArray=vals)
    (H:∀ t,Kn N e (N4 0 vs) t→c.wp P (bodyPostM Fence.wide 0 P fn R) ⟨t,[]⟩ w):Calls P f vals w R:=by
  subst hv
  have hn:vs.length≤N:=by simpa using hn
  refine callsIn_wide.1 (callsIn_of_wp_marks (n:=0) hf hb trivial (wpIn_wide.2 (H _ ⟨by simp [hN]; omega,fun k v hk=>?_⟩)))
  obtain⟨i,h1,h2⟩:=JU e vs 0 k v hk
  obtain rfl:k=i:=by omega
  have hlt:k<(vs.map (SA.den e)).length:=by
    rcases Nat.lt_or_ge k (vs.map (SA.den e)).length with h' | h'
    · exact h'
    rw [List.getElem?_eq_none h'] at h2; cases h2
  rw [Array.getElem?_append_left (by simpa using hlt)]
  simpa using h2
def W5 (Q:Exit→Act→World→Prop):Exit→Act→World→Prop
  | .panic _,_,_=>False
  | x,a,w=>Q x a w
theorem QZ {f:FuncId} {fn:Func} {c:Code} {R:Ending→World→Prop} {vals:Array Value} (N:Nat) (vs:List SA) (hf:P.funcs[f]? = some fn) (hb:fn.body=some c) (hN:fn.ntmps=N) (hn:decide (vs.length≤N)=true) (hv:(vs.map (SA.den e)).toArray=vals)
    (H:∀ t,Kn N e (N4 0 vs) t→c.wp P (W5 (bodyPostM Fence.wide 0 P fn R)) ⟨t,[]⟩ w):Calls P f vals w R:=by
  refine Xu N vs hf hb hN hn hv fun t hk=>?_
  refine wpIn_wide.1 (wpIn_mono (wpIn_wide (n:=0).2 (H t hk)) fun x a w h=>?_)
  cases x <;> first | exact h | exact h.elim
theorem PH (r:Loop) (hm:Ai F h e pl rw w):Ai ((F.put w.heap.size (some (.deferred (some [])))).put (w.heap.size+1) (some (.loop r))) h e pl rw (Fu w r):=by
  have h1:=(hm.allocX (.deferred (some []))).allocX (.loop r)
  simpa [Fu] using h1
theorem Ai.putLoop {b:Nat} {o o':Obj} (hm:Ai F h e pl rw w) (hx:F.X b=some o) (hc:QR o=false):Ai (F.put b (some o')) h e pl rw (w.putObj b o') :=
  hm.setX hx hc (LS w b _) (World.putObj_heap_same (hm.extLt hx))
end
open Go Go.RowKit
open Rep (rep)
open KRep (kv)
open VRep (rv)
open Go.ChangeMaps (setBlock)
section
variable {P:Program} {Q:Exit→Act→World→Prop} {N:Nat} {F:Fr} {h:Ac} {e:AJ} {pl:List C0} {rw:List Ca} {w w':World} {m:TM} {t:Array Value} {dd:List Deferred} {o:Oper} {d:Nat} {K:Act→World→Prop}
theorem Ay.same {pl':List C0} (hp:Ay e pl w) (h:pl.map (·.cells)=pl'.map (·.cells)):Ay e pl' w:=fun i p hi j c hc=>by
  have h1:(pl'.map (·.cells))[i]? = some p.cells:=by rw [List.getElem?_map,hi]; rfl
  rw [← h,List.getElem?_map] at h1
  obtain⟨q,hq,hqc⟩:=Option.map_eq_some_iff.1 h1
  exact hp i q hq j c (by rw [hqc]; exact hc)
end
open Go Go.RowKit
open Rep (rep)
open KRep (kv)
open VRep (rv)
section
variable {P:Program} {Q:Exit→Act→World→Prop} {N:Nat} {e:AJ} {w:World} {m:TM} {t:Array Value} {d:List Deferred} {F:Fence} {n:Nat}
end
open Go Go.RowKit
open Rep (rep)
open KRep (kv)
open VRep (rv)
theorem Fr.put_put (F:Fr) (b:Nat) (x y:Option Obj):(F.put b x).put b y=F.put b y:=by
  unfold Fr.put
  congr 1
  funext k
  by_cases hk:k=b <;> simp [hk]
theorem Fr.put_X (F:Fr) (b:Nat) (x:Option Obj):(F.put b x).X b=x:=by simp [Fr.put]
theorem Fr.put_ne (F:Fr) {b c:Nat} (x:Option Obj) (h:c≠b):(F.put b x).X c=F.X c:=by simp [Fr.put,h]
theorem Fr.put_self {F:Fr} {b:Nat} {x:Option Obj} (h:F.X b=x):F.put b x=F:=by
  cases F with
  | mk w h' X =>
    unfold Fr.put
    congr 1
    funext k
    by_cases hk:k=b
    · subst hk; simp; exact h.symm
    simp [hk]
def LV {α:Type} (l:List α):List Nat→List α→List α
  | i::is,x::xs=>LV (l.set i x) is xs
  | _,_=>l
theorem N7 {α:Type}:∀ (is:List Nat)(xs l:List α),(LV l is xs).length=l.length
  | [],xs,l=>by cases xs <;> rfl
  | _::_,[],_=>rfl
  | i::is,x::xs,l=>by rw [LV,N7 is xs]; simp
theorem LW {α:Type} {j:Nat}:∀ (is:List Nat)(xs l:List α),j ∉ is→(LV l is xs)[j]? = l[j]?
  | [],xs,l,_=>by cases xs <;> rfl
  | _::_,[],_,_=>rfl
  | i::is,x::xs,l,h=>by
    simp only [List.mem_cons,not_or] at h
    rw [LV,LW is xs _ h.2,List.getElem?_set_ne (Ne.symm h.1)]
theorem Ra {α:Type}:∀ (is:List Nat)(xs l:List α)(k j:Nat)(x:α),is.Nodup→is[k]? = some j→xs[k]? = some x→j<l.length→(LV l is xs)[j]? = some x
  | [],_,_,_,_,_,_,h,_,_=>by simp at h
  | _::_,[],_,_,_,_,_,_,h,_=>by simp at h
  | i::is,y::xs,l,0,j,x,hn,h1,h2,h3=>by
    simp at h1 h2
    subst h1; subst h2
    rw [LV,LW is xs _ (List.nodup_cons.1 hn).1]
    simp [h3]
  | i::is,y::xs,l,k+1,j,x,hn,h1,h2,h3=>by
    rw [LV]
    exact Ra is xs _ k j x (List.nodup_cons.1 hn).2 (by simpa using h1) (by simpa using h2) (by simpa using h3)
def pick {α:Type} (l:List α) (is:List Nat) (d:α):List α:=is.map fun i=>l.getD i d
def Xv:C0:=⟨[],none⟩
def Ss:Ca:=⟨none,0,0,0,0,[],0⟩
def Kp (e:AJ) (is:List Nat):AJ:=is.map e.blk
theorem Rb (e:AJ):∀ (is:List Nat)(k:Nat),k<is.length→AJ.blk (Kp e is) k=e.blk (is.getD k 0)
  | [],k,h=>by simp at h
  | i::is,0,_=>rfl
  | i::is,k+1,h=>by
    have:=Rb e is k (by simpa using h)
    simpa [Kp,AJ.blk] using this
def Kq:List SC→Bool
  | []=>true
  | .ptr _ _::_=>false
  | _::r=>Kq r
theorem JW {e e':AJ}:∀ {cs:List SC},Kq cs=true→cs.map (SC.den e)=cs.map (SC.den e')
  | [],_=>rfl
  | c::r,h=>by
    cases c with
    | ptr i off=>simp [Kq] at h
    | _=>simp only [Kq] at h; rw [List.map_cons,List.map_cons,JW (e:=e) (e':=e') h]; rfl
def Rc (pl:List C0) (is:List Nat):Bool:=is.all fun i=>match pl[i]? with | some p=>p.own.isSome && Kq p.cells | none=>false
def JX (rw:List Ca) (js:List Nat):Bool:=js.all fun j=>decide (j<rw.length)
def Fk:List Nat→Bool
  | []=>true
  | x::r=>!r.contains x && Fk r
theorem Dk:∀ {l:List Nat},Fk l=true→l.Nodup
  | [],_=>List.nodup_nil
  | x::r,h=>by
    simp only [Fk,Bool.and_eq_true,Bool.not_eq_true',List.contains_eq_mem] at h
    exact List.nodup_cons.2 ⟨by simpa using h.1,Dk h.2⟩
theorem Ez:∀ {l:List Nat} {x k:Nat},l.idxOf? x=some k→l[k]? = some x
  | [],_,_,h=>by simp [List.idxOf?] at h
  | y::r,x,k,h=>by
    rw [List.idxOf?_cons] at h
    split at h
    · rename_i hy
      cases h
      simp at hy
      simp [hy]
    obtain⟨k',hk,rfl⟩:=Option.map_eq_some_iff.1 h
    simpa using Ez hk
theorem KM:∀ {l:List Nat} {x:Nat},x∈l→∃ k,l.idxOf? x=some k
  | y::r,x,h=>by
    rw [List.idxOf?_cons]
    split
    · exact⟨0,rfl⟩
    rename_i hy
    rcases List.mem_cons.1 h with rfl | h
    · simp at hy
    obtain⟨k,hk⟩:=KM h
    exact⟨k+1,by simp [hk]⟩
theorem HT:∀ {l:List Nat} {x k:Nat},l.Nodup→l[k]? = some x→l.idxOf? x=some k
  | [],_,_,_,h=>by simp at h
  | y::r,x,0,_,h=>by simp at h; subst h; rw [List.idxOf?_cons]; simp
  | y::r,x,k+1,hn,h=>by
    have hx:x∈r:=List.mem_of_getElem? (by simpa using h)
    have hy:y≠x:=fun hy=>(List.nodup_cons.1 hn).1 (hy▸hx)
    rw [List.idxOf?_cons,HT (List.nodup_cons.1 hn).2 (by simpa using h)]
    simp [hy]
section
variable {F:Fr} {h:Ac} {e:AJ} {pl:List C0} {rw:List Ca} {w:World}
def LX (F:Fr) (ow:LL) (e:AJ) (pl:List C0) (rw:List Ca) (is js:List Nat) (w:World):Nat→Option Obj:=fun b =>
  match F.X b with
  | some o=>some o
  | none=>match ow b with
    | some (.inl i)=>if i∈is then none else match pl[i]? with
      | some p=>if p.own.isSome∧(e.blk i).1=b then w.heap[b]? else none
      | none=>none
    | some (.inr j)=>if j∈js then none else match rw[j]? with
      | some r=>if ∃ ad,r.a=some ad∧ad.block=b then w.heap[b]? else none
      | none=>none
    | none=>none
def Jv (ow:LL) (is js:List Nat):LL:=fun b=>match ow b with
  | some (.inl i)=>(is.idxOf? i).map .inl
  | some (.inr j)=>(js.idxOf? j).map .inr
  | none=>none
theorem N8 {ow:LL} {is js:List Nat} {b:Nat} {x:Nat ⊕ Nat} (hx:Jv ow is js b=some x) :
    (∃ i k,x=.inl k∧ow b=some (.inl i)∧is[k]? = some i)∨(∃ j k,x=.inr k∧ow b=some (.inr j)∧js[k]? = some j):=by
  unfold Jv at hx
  split at hx
  · rename_i i hi
    obtain⟨k,hk,rfl⟩:=Option.map_eq_some_iff.1 hx
    exact .inl ⟨i,k,rfl,hi,Ez hk⟩
  · rename_i j hj
    obtain⟨k,hk,rfl⟩:=Option.map_eq_some_iff.1 hx
    exact .inr ⟨j,k,rfl,hj,Ez hk⟩
  cases hx
theorem Ai.lend (is js:List Nat) (hm:Ai F h e pl rw w) (hi:Rc pl is=true) (hj:JX rw js=true) (hni:Fk is=true) (hnj:Fk js=true) :
    ∃ Y,(∀ b o,F.X b=some o→Y b=some o)∧Ai ⟨F.w,h,Y⟩ h (Kp e is) (pick pl is Xv) (pick rw js Ss) w ∧
      ∀ (Z:Nat→Option Obj)(h':Ac)(w':World)(pl':List C0)(rw':List Ca),Ac.le h h'→(∀ b,F.X b=none→Z b=Y b)→pl'.length=is.length→js.length≤rw'.length →
        (pl'.all fun(p:C0)=>p.own.isSome && Kq p.cells)=true→Ai ⟨F.w,h,Z⟩ h' (Kp e is) pl' rw' w' →
        Ai ⟨F.w,F.h,fun b=>if (F.X b).isSome then Z b else none⟩ h' e (LV pl is pl') (LV rw js rw'++rw'.drop js.length) w':=by
  have hni:=Dk hni
  have hnj:=Dk hnj
  obtain⟨ow,m⟩:=hm
  have hI:∀ k i,is[k]? = some i→∃ p:C0,pl[i]? = some p∧p.own.isSome=true∧Kq p.cells=true:=fun k i hk=>by
    have:=List.all_eq_true.1 hi i (List.mem_of_getElem? hk)
    split at this
    · rename_i p hp
      simp only [Bool.and_eq_true] at this
      exact⟨p,hp,this⟩
    cases this
  have hJ:∀ k j,js[k]? = some j→∃ r,rw[j]? = some r:=fun k j hk=>by
    have:=of_decide_eq_true (List.all_eq_true.1 hj j (List.mem_of_getElem? hk))
    exact⟨rw[j],List.getElem?_eq_getElem this⟩
  refine⟨LX F ow e pl rw is js w,fun b o hb=>by simp [LX,hb],⟨Jv ow is js,m.below,Ac.le_refl _,fun _ _ _ hx=>.inl hx,m.has,?_,?_,?_,?_,?_⟩,?_⟩
  · intro b x hx
    rcases N8 hx with⟨i,k,_,h1,_⟩ | ⟨i,k,_,h1,_⟩ <;> exact m.ows b _ h1
  · intro b o x k hv hx
    rcases N8 hx with⟨i,k',_,h1,_⟩ | ⟨i,k',h0,h1,_⟩
    · exact m.hown b o x i hv h1
    cases h0
  · intro k p hp
    simp only [pick,List.getElem?_map] at hp
    obtain⟨i,hi',rfl⟩:=Option.map_eq_some_iff.1 hp
    obtain⟨p,hp',ho,hnp⟩:=hI k i hi'
    have hl:k<is.length:=(List.getElem?_eq_some_iff.1 hi').1
    have hb:AJ.blk (Kp e is) k=e.blk i:=by
      rw [Rb e is k hl]; congr 1; simp [List.getD_eq_getElem?_getD,hi']
    have:=m.pls i p hp'
    rw [List.getD_eq_getElem?_getD,hp']
    simp only [Option.getD_some]
    unfold Cq at this ⊢
    split at this
    · rename_i T hT
      obtain⟨h1,h2,h3,h4⟩:=this
      rw [hb]
      refine⟨?_,h2,?_,h4⟩
      · simp only [Jv,h1,HT hni hi',Option.map_some]
      rw [h3,JW hnp]
    rename_i hT
    rw [hT] at ho; cases ho
  · intro k r hr
    simp only [pick,List.getElem?_map] at hr
    obtain⟨j,hj',rfl⟩:=Option.map_eq_some_iff.1 hr
    obtain⟨r,hr'⟩:=hJ k j hj'
    rw [List.getD_eq_getElem?_getD,hr']
    obtain⟨h1,h2,h3,h4⟩:=m.rws j r hr'
    refine⟨h1,h2,fun ad ha=>?_,h4⟩
    obtain⟨q1,q2,q3⟩:=h3 ad ha
    refine⟨?_,q2,q3⟩
    simp only [Jv,q1,HT hnj hj',Option.map_some]
  · intro b x hx
    simp only [LX] at hx
    split at hx
    · rename_i o ho
      cases hx
      obtain⟨h1,h2,h3,h4,h5⟩:=m.ext b _ ho
      exact⟨h1,h2,h3,by simp [Jv,h4],fun _ _ hv=>hv,h5.2⟩
    split at hx
    · rename_i i hio
      split at hx
      · cases hx
      rename_i hni'
      split at hx
      · rename_i p hp
        split at hx
        · rename_i hb
          have:=m.ows b _ hio
          have hpl:=m.pls i p hp
          unfold Cq at hpl
          split at hpl
          · obtain⟨q1,q2,q3,q4⟩:=hpl
            rw [hb.2] at q3 q4
            have hxe:=hx
            rw [q3] at hxe
            refine⟨this.1,this.2,hx,?_,fun _ _ hv=>hv,fun hc=>?_⟩
            · simp only [Jv,hio]
              cases hix:is.idxOf? i with
              | none=>rfl
              | some k=>exact absurd (List.mem_of_getElem? (Ez hix)) hni'
            exact q4
          rename_i hT
          rw [hT] at hb; simp at hb
        cases hx
      cases hx
    · rename_i j hjo
      split at hx
      · cases hx
      rename_i hnj'
      split at hx
      · rename_i r hr
        split at hx
        · rename_i hb
          obtain⟨ad,ha,hb⟩:=hb
          have:=m.ows b _ hjo
          refine⟨this.1,this.2,hx,?_,fun _ _ hv=>hv,fun hc=>?_⟩
          · simp only [Jv,hjo]
            cases hix:js.idxOf? j with
            | none=>rfl
            | some k=>exact absurd (List.mem_of_getElem? (Ez hix)) hnj'
          exfalso
          obtain⟨_,h2⟩:=(m.rws j r hr).own
          rcases h2 with⟨h2,_⟩ | ⟨g,cap,cur,h2,_,h3,_⟩
          · rw [ha] at h2; cases h2
          rw [ha] at h2
          have hg:ad=⟨g,0,none⟩:=by injection h2 with h2; exact Option.some.inj h2
          rw [hg] at hb
          simp only at hb
          rw [← hb,h3] at hx
          cases hx
          cases hc
        cases hx
      cases hx
    cases hx
  intro Z h' w' pl' rw' hle hZ hl1 hl2 hok hm'
  obtain⟨ow',m'⟩:=hm'
  have hY:∀ b x,F.X b=none→LX F ow e pl rw is js w b=some x→Z b=some x:=fun b x hb hx=>by rw [hZ b hb]; exact hx
  refine⟨fun b=>match ow' b with
    | some (.inl k)=>(is[k]?).map .inl
    | some (.inr k)=>if k<js.length then(js[k]?).map .inr else some (.inr (rw.length+(k-js.length)))
    | none=>if F.X b=none∧(LX F ow e pl rw is js w b).isSome then ow b else none,m'.below,Ac.le_trans m.le hle,?_,m'.has,?_,?_,?_,?_,?_⟩
  · intro b o x hx
    rcases m'.old b o x hx with h1 | h1
    · exact m.old b o x h1
    exact .inr h1
  · intro b x hx
    (try simp only at hx)
    split at hx
    · rename_i k hk; exact m'.ows b _ hk
    · rename_i k hk; exact m'.ows b _ hk
    split at hx
    · rename_i hc
      obtain⟨y,hy⟩:=Option.isSome_iff_exists.1 hc.2
      exact⟨(m.ows b _ hx).1,(m'.ext b y (hY b y hc.1 hy)).2.1⟩
    cases hx
  · intro b o x i hv hx
    (try simp only at hx)
    split at hx
    · rename_i k hk; exact m'.hown b o x k hv hk
    · split at hx
      · obtain⟨_,_,hc⟩:=Option.map_eq_some_iff.1 hx
        cases hc
      cases hx
    split at hx
    · rename_i hc
      obtain⟨y,hy⟩:=Option.isSome_iff_exists.1 hc.2
      exact m.hown b o x i ((m'.ext b y (hY b y hc.1 hy)).2.2.2.2.1 o x hv) hx
    cases hx
  · intro i p hp
    by_cases hii:i∈is
    · obtain⟨k,hk⟩:=KM hii
      have hk:=Ez hk
      have hkl:k<is.length:=(List.getElem?_eq_some_iff.1 hk).1
      obtain⟨p0,hp0,_,_⟩:=hI k i hk
      have hq:pl'[k]? = some pl'[k]:=List.getElem?_eq_getElem (by omega)
      rw [Ra is pl' pl k i _ hni hk hq (List.getElem?_eq_some_iff.1 hp0).1] at hp
      have hp:=Option.some.inj hp
      have hall:=List.all_eq_true.1 hok _ (List.mem_of_getElem? hq)
      rw [hp] at hq hall
      simp only [Bool.and_eq_true] at hall
      have:=m'.pls k p hq
      have hb:AJ.blk (Kp e is) k=e.blk i:=by
        rw [Rb e is k hkl]; congr 1; simp [List.getD_eq_getElem?_getD,hk]
      unfold Cq at this ⊢
      split at this
      · obtain⟨q1,q2,q3,q4⟩:=this
        rw [hb] at q1 q2 q3 q4
        refine⟨?_,q2,?_,q4⟩
        · simp only [q1,hk,Option.map_some]
        rw [q3,JW hall.2]
      rename_i hT
      rw [hT] at hall; simp at hall
    rw [LW is pl' pl hii] at hp
    have:=m.pls i p hp
    unfold Cq at this ⊢
    split at this
    · rename_i T hT
      obtain⟨q1,q2,q3,q4⟩:=this
      have hX:F.X (e.blk i).1=none:=by
        cases hx:F.X (e.blk i).1 with
        | none=>rfl
        | some y=>have:=(m.ext _ y hx).2.2.2.1; rw [this] at q1; cases q1
      have hh:LX F ow e pl rw is js w (e.blk i).1=some (.cells (p.cells.map (SC.den e)).toArray T (0,0)):=by
        simp only [LX,hX,q1,hii,if_false,hp,hT,Option.isSome_some,true_and,if_true,q3]
      obtain⟨s1,s2,s3,s4,s5⟩:=m'.ext _ _ (hY _ _ hX hh)
      refine⟨?_,q2,s3,fun o=>?_⟩
      · simp only [s4,hX,hh,Option.isSome_some,and_self,if_true,q1]
      cases hv:h' (e.blk i).1 o with
      | none=>rfl
      | some v=>have h9:h (e.blk i).1 o=some v:=s5.1 o v hv; rw [q4 o] at h9; cases h9
    exact fun j c hj=>hle _ _ _ (this j c hj)
  · intro i r hr
    have hlen:=N7 js rw' rw
    by_cases hi':i<rw.length
    · rw [List.getElem?_append_left (by omega)] at hr
      by_cases hii:i∈js
      · obtain⟨k,hk⟩:=KM hii
        have hk:=Ez hk
        have hkl:k<js.length:=(List.getElem?_eq_some_iff.1 hk).1
        have hq:rw'[k]? = some rw'[k]:=List.getElem?_eq_getElem (by omega)
        rw [Ra js rw' rw k i _ hnj hk hq hi'] at hr
        have hr:=Option.some.inj hr
        rw [hr] at hq
        obtain⟨q1,q2,q3,q9⟩:=m'.rws k r hq
        refine⟨q1,q2,fun ad ha=>?_,q9⟩
        obtain⟨q4,q5,q6⟩:=q3 ad ha
        exact⟨by simp only [q4,hkl,if_true,hk,Option.map_some],q5,q6⟩
      rw [LW js rw' rw hii] at hr
      obtain⟨q1,q2,q3,q9⟩:=m.rws i r hr
      have key:∀ ad,r.a=some ad→∃ x,LX F ow e pl rw is js w ad.block=some x∧w.heap[ad.block]? = some x∧F.X ad.block=none:=fun ad ha=>by
        obtain⟨q4,q5,q6⟩:=q3 ad ha
        have hX:F.X ad.block=none:=by
          cases hx:F.X ad.block with
          | none=>rfl
          | some y=>have:=(m.ext _ y hx).2.2.2.1; rw [this] at q4; cases q4
        have hlt:=(m.ows _ _ q4).2
        refine⟨w.heap[ad.block],?_,Array.getElem?_eq_getElem hlt,hX⟩
        simp only [LX,hX,q4,hii,if_false,hr]
        rw [if_pos ⟨ad,ha,rfl⟩]
        exact Array.getElem?_eq_getElem hlt
      refine⟨?_,q2,fun ad ha=>?_,q9⟩
      · refine⟨q1.1,?_⟩
        rcases q1.2 with hn | ⟨g,cap,cur,hv,hb,hg,rest⟩
        · exact .inl hn
        refine .inr ⟨g,cap,cur,hv,hb,?_,rest⟩
        have ha:r.a=some ⟨g,0,none⟩:=by injection hv
        obtain⟨x,hx1,hx2,hx3⟩:=key _ ha
        obtain⟨s1,s2,s3,s4,s5⟩:=m'.ext _ _ (hY _ _ hx3 hx1)
        rw [s3,← hx2]; exact hg
      obtain⟨q4,q5,q6⟩:=q3 ad ha
      obtain⟨x,hx1,hx2,hx3⟩:=key _ ha
      obtain⟨s1,s2,s3,s4,s5⟩:=m'.ext _ _ (hY _ _ hx3 hx1)
      refine⟨?_,fun o ho=>?_,fun o ho=>?_⟩
      · simp only [s4,hx3,hx1,Option.isSome_some,and_self,if_true,q4]
      · cases hv:h' ad.block o with
        | none=>rfl
        | some v=>have h9:h ad.block o=some v:=s5.1 o v hv; rw [q5 o ho] at h9; cases h9
      have:=q6 o ho
      have h2:r.xs[o]? = some (r.xs[o]'(by omega)):=List.getElem?_eq_getElem _
      rw [h2] at this ⊢
      exact hle _ _ _ this
    rw [List.getElem?_append_right (by omega)] at hr
    simp only [List.getElem?_drop] at hr
    obtain⟨q1,q2,q3,q9⟩:=m'.rws _ r hr
    refine⟨q1,q2,fun ad ha=>?_,q9⟩
    obtain⟨q4,q5,q6⟩:=q3 ad ha
    refine⟨?_,q5,q6⟩
    simp only [q4]
    rw [if_neg (by omega)]
    congr 2
    omega
  intro b x hx
  (try simp only at hx)
  split at hx
  · rename_i hc
    obtain⟨y,hy⟩:=Option.isSome_iff_exists.1 hc
    obtain⟨s1,s2,s3,s4,s5⟩:=m'.ext b x hx
    refine⟨s1,s2,s3,?_,fun o v hv=>(m.ext b y hy).2.2.2.2.1 o v (s5.1 o v hv),s5.2⟩
    simp only [s4,hy]
    simp
  cases hx
end
open Go Go.RowKit
open Rep (rep)
open KRep (kv)
open VRep (rv)
section
variable {P:Program} {Q:Exit→Act→World→Prop} {N:Nat} {F:Fr} {h:Ac} {e:AJ} {pl:List C0} {rw:List Ca} {w:World} {m:TM} {t:Array Value} {dd:List Deferred} {o:Oper} {d:Nat} {K:Act→World→Prop}
theorem MK {α:Type} (x:Option α):x=none∨∃ y,x=some y:=by cases x <;> simp
theorem Ai.lend0 (is js:List Nat) (hm:Ai F h e pl rw w) (hi:Rc pl is=true) (hj:JX rw js=true) (hni:Fk is=true) (hnj:Fk js=true) :
    ∃ Y,(∀ b o,F.X b=some o→Y b=some o)∧Ai ⟨F.w,h,Y⟩ h (Kp e is) (pick pl is Xv) (pick rw js Ss) w ∧
      ∀ (h':Ac)(w':World)(pl':List C0)(rw':List Ca),Ac.le h h'→pl'.length=is.length→js.length≤rw'.length →
        (pl'.all fun(p:C0)=>p.own.isSome && Kq p.cells)=true→Ai ⟨F.w,h,Y⟩ h' (Kp e is) pl' rw' w' →
        Ai F h' e (LV pl is pl') (LV rw js rw'++rw'.drop js.length) w':=by
  obtain⟨Y,h1,h2,h3⟩:=hm.lend is js hi hj hni hnj
  refine⟨Y,h1,h2,fun h' w' pl' rw' hle hl1 hl2 hok hm'=>?_⟩
  have:=h3 Y h' w' pl' rw' hle (fun _ _=>rfl) hl1 hl2 hok hm'
  have hF:(⟨F.w,F.h,fun b=>if (F.X b).isSome then Y b else none⟩:Fr)=F:=by
    cases F with
    | mk w0 h0 X =>
      congr 1
      funext b
      rcases MK (X b) with hx | ⟨x,hx⟩
      · simp [hx]
      simp [hx,h1 b x hx]
  rw [hF] at this
  exact this
theorem Ai.lend1 (bm:Nat) {o0:Obj} (hX:F.X bm=some o0) (is js:List Nat) (hm:Ai F h e pl rw w) (hi:Rc pl is=true) (hj:JX rw js=true) (hni:Fk is=true) (hnj:Fk js=true) :
    ∃ Y,(∀ b o,F.X b=some o→Y b=some o)∧Ai ⟨F.w,h,Y⟩ h (Kp e is) (pick pl is Xv) (pick rw js Ss) w ∧
      ∀ (o':Obj)(h':Ac)(w':World)(pl':List C0)(rw':List Ca),Ac.le h h'→pl'.length=is.length→js.length≤rw'.length →
        (pl'.all fun(p:C0)=>p.own.isSome && Kq p.cells)=true→Ai ((⟨F.w,h,Y⟩:Fr).put bm (some o')) h' (Kp e is) pl' rw' w' →
        Ai (F.put bm (some o')) h' e (LV pl is pl') (LV rw js rw'++rw'.drop js.length) w':=by
  obtain⟨Y,h1,h2,h3⟩:=hm.lend is js hi hj hni hnj
  refine⟨Y,h1,h2,fun o' h' w' pl' rw' hle hl1 hl2 hok hm'=>?_⟩
  have:=h3 (fun k=>if k=bm then some o' else Y k) h' w' pl' rw' hle (fun b hb=>by
    have:b≠bm:=fun hbm=>by rw [hbm,hX] at hb; cases hb
    simp [this]) hl1 hl2 hok hm'
  have hF:(⟨F.w,F.h,fun b=>if (F.X b).isSome then(if b=bm then some o' else Y b) else none⟩:Fr)=F.put bm (some o'):=by
    cases F with
    | mk w0 h0 X =>
      unfold Fr.put
      congr 1
      funext b
      simp only at hX h1 ⊢
      by_cases hb:b=bm
      · subst hb; simp [hX]
      rcases MK (X b) with hx | ⟨x,hx⟩
      · simp [hb,hx]
      simp [hb,hx,h1 b x hx]
  rw [hF] at this
  exact this
def Jw (S:Value→World→Prop) (en:Ending) (w':World):Prop:=∃ v,en=.returned v∧S v w'
theorem HU {f:FuncId} {args:Array Operand} {tys:Array TypeId} {S:Value→World→Prop} (vs:List SA) (vals:Array Value) (hk:Kn N e m t) (hop:o.op=.call ⟨.value (.func f),args,tys⟩) (hd:o.dst=some d) (hlt:d<N)
    (hargs:II m args.toList=some vs) (hvals:(vs.map (SA.den e)).toArray=vals) (hent:∀ args w,(callFunc f args).run P w=.ok (.enter f args) w) (hcall:Calls P f vals w (Jw S))
    (hK:∀ v w',S v w'→∃ sv:SV,sv.den e=v∧∀ t',Kn N e (m.put d sv) t'→K ⟨t',dd⟩ w'):o.wp P ⟨t,dd⟩ w K Q:=by
  subst hvals
  have h1:args.map (Act.mk t dd).eval=(vs.map (SA.den e)).toArray:=by
    rw [← Dw (dd:=dd) hk hargs]
    apply Array.ext'
    rw [Array.toList_map]
  unfold Oper.wp execOp
  simp only [hop,resolve,h1]
  simp only [Act.eval,Deferred.ofValue,Sem.run_bind,Sem.run_pure,Result.andThen_ok,invoke,Array.empty_append,Array.append_empty,hent,Oper.upon]
  refine hcall.mono ?_
  rintro en w' ⟨v,rfl,hS⟩
  obtain⟨sv,hsv,hk'⟩:=hK v w' hS
  show K _ _
  rw [CV t dd hd,← hsv]
  exact hk' _ (hk.put hlt sv)
theorem ED (v0:SC) {x:Operand} {args:Array Operand} {tys:Array TypeId} {S:Value→World→Prop} (vs:List SA) (vals:Array Value) (hk:Kn N e m t) (hop:o.op=.call ⟨.value x,args,tys⟩) (hd:o.dst=some d) (hlt:d<N)
    (hx:DR m x=some (.c v0)) (hargs:II m args.toList=some vs) (hvals:(vs.map (SA.den e)).toArray=vals) (hcall:H7 P (v0.den e) vals w (Jw S))
    (hK:∀ v w',S v w'→∃ sv:SV,sv.den e=v∧∀ t',Kn N e (m.put d sv) t'→K ⟨t',dd⟩ w'):o.wp P ⟨t,dd⟩ w K Q:=by
  subst hvals
  have h1:args.map (Act.mk t dd).eval=(vs.map (SA.den e)).toArray:=by
    rw [← Dw (dd:=dd) hk hargs]
    apply Array.ext'
    rw [Array.toList_map]
  obtain⟨f,first,cap,hv,hent,hcall⟩:=hcall
  have hxe:=Ap (d:=dd) hk hx
  simp only [SA.den,hv] at hxe
  unfold Oper.wp execOp
  simp only [hop,resolve,h1,hxe]
  simp only [Deferred.ofValue,Sem.run_bind,Sem.run_pure,Result.andThen_ok,invoke,hent,Oper.upon]
  refine hcall.mono ?_
  rintro en w' ⟨v,rfl,hS⟩
  obtain⟨sv,hsv,hk'⟩:=hK v w' hS
  show K _ _
  rw [CV t dd hd,← hsv]
  exact hk' _ (hk.put hlt sv)
theorem Hw {fn:Func} {S:Value→World→Prop} (sv:SV) (hk:Kn N e m t) (hm:Ai F h e pl rw w) (hr:QU P m pl fn.results.toList=some sv) (hS:S (sv.den e) w) :
    bodyPost P fn (Jw S) .ret ⟨t,[]⟩ w:=⟨rfl,_,Ix hk hm.plOk hr,_,rfl,hS⟩
theorem LY {fn:Func} {S:Value→World→Prop} (hr:fn.results=#[]) (hS:S (.tuple #[]) w) :
    bodyPost P fn (Jw S) .normal ⟨t,[]⟩ w:=by
  refine⟨rfl,_,?_,_,rfl,hS⟩
  simp [results,hr]
structure XO {σ:Type} (XS:σ→Fr→Ac→Prop) (B:Nat→Prop):Prop where
  mono:∀ s F F' h h',XS s F h→Ac.le h h'→(∀ b,B b→F'.X b=F.X b)→(∀ b,B b→∀ o v,F'.h b o=some v→F.h b o=some v)→XS s F' h'
  dom:∀ s F h,XS s F h→∀ b,B b→(F.X b).isSome=true
theorem XO.up {σ:Type} {XS:σ→Fr→Ac→Prop} {B:Nat→Prop} {s:σ} {h':Ac} (hS:XO XS B) (hs:XS s F h) (hle:Ac.le h h'):XS s F h':=hS.mono s F F h h' hs hle (fun _ _=>rfl) (fun _ _ _ _ hv=>hv)
structure Fr.Sim (B:Nat→Prop) (F G:Fr):Prop where
  w:G.w=F.w
  h:G.h=F.h
  X:∀ b,¬ B b→G.X b=F.X b
theorem Fr.Sim.refl (B:Nat→Prop) (F:Fr):Fr.Sim B F F:=⟨rfl,rfl,fun _ _=>rfl⟩
theorem Fr.Sim.trans {B:Nat→Prop} {F G H:Fr} (a:Fr.Sim B F G) (b:Fr.Sim B G H):Fr.Sim B F H:=⟨b.w.trans a.w,b.h.trans a.h,fun k hk=>(b.X k hk).trans (a.X k hk)⟩
def ES {KK α:Type} [DecidableEq KK] (l:List (KK×α)) (k:KK) (z:α):α×Bool:=match DA l k with
  | some x=>(x,true)
  | none=>(z,false)
theorem HV {KK α:Type} [KRep KK] [DecidableEq KK] [VRep α] {T KT E:TypeId} {mo ko:Operand} {ok:Bool} {b c:Nat} {es:Array MapEntry} {l:List (KK×α)} {k:KK} {zv:Value} (z0:α) (kx:SA) (hk:Kn N e m t) (hop:o.op=.lookup T mo ko ok) (hd:o.dst=some d) (hlt:d<N)
    (h1:DR m mo=some (.c (.map (some b)))) (h2:DR m ko=some kx) (hT:P.underlying T=some (.map KT E)) (L:KL P KT KK) (hb:w.heap[b]? = some (.map es c)) (H:Cy h es.toList c l) (hkx:kx.den e=kv k)
    (hz:(P.info? E).bind (·.zero)=some zv) (hzr:rv h z0 zv)
    (hK:∀ v,rv h (ES l k z0).1 v→∃ sv:SV,sv.den e=(if ok then .tuple #[v,.bool (ES l k z0).2] else v)∧∀ t',Kn N e (m.put d sv) t'→K ⟨t',dd⟩ w):o.wp P ⟨t,dd⟩ w K Q:=by
  have hz':(zeroValue E).run P w=.ok zv w:=by
    obtain⟨i,hi,hzi⟩:=Option.bind_eq_some_iff.1 hz
    simp [zeroValue,typeInfo,hi,hzi]
  have key:∀ v,(execOp (Act.mk t dd).eval o).run P w=.ok (.value v) w→(∃ sv:SV,sv.den e=v∧∀ t',Kn N e (m.put d sv) t'→K ⟨t',dd⟩ w)→o.wp P ⟨t,dd⟩ w K Q:=by
    intro v hrun ⟨sv,hsv,hk'⟩
    unfold Oper.wp
    simp only [hrun,Oper.upon]
    show K _ _
    rw [CV t dd hd,← hsv]
    exact hk' _ (hk.put hlt sv)
  rcases Tp (P:=P) (dd:=dd) kx hk hop h1 h2 hT L hb H hkx hz' with⟨a1,a2⟩ | ⟨x,v,a1,a2,a3⟩
  · refine key _ a2 ?_
    have:=hK zv (by simp only [ES,a1]; exact hzr)
    simpa only [ES,a1] using this
  refine key _ a3 ?_
  have:=hK v (by simp only [ES,a1]; exact a2)
  simpa only [ES,a1] using this
theorem KN {KK α:Type} [KRep KK] [DecidableEq KK] [VRep α] {T KT E:TypeId} {mo ko vo:Operand} {b c:Nat} {es:Array MapEntry} {l:List (KK×α)} {k:KK} {x:α} (kx vx:SA) (hk:Kn N e m t) (hm:Ai (Fr.put F b (some (.map es c))) h e pl rw w) (hop:o.op=.mapUpdate T mo ko vo) (hd:o.dst=none)
    (h1:DR m mo=some (.c (.map (some b)))) (h2:DR m ko=some kx) (h3:DR m vo=some vx) (hT:P.underlying T=some (.map KT E)) (L:KL P KT KK)
    (H:Cy h es.toList c l) (hkx:kx.den e=kv k) (hx:rv h x (vx.den e))
    (hKK:∀ es' c' w',Cy h es'.toList c' (Hp l k x)→Kn N e m t→Ai (Fr.put F b (some (.map es' c'))) h e pl rw w'→K ⟨t,dd⟩ w'):o.wp P ⟨t,dd⟩ w K Q :=
  UK kx vx hk hm hop hd h1 h2 h3 hT L (Fr.put_X _ _ _) H hkx hx fun es' c' w' hE hm'=>hKK es' c' w' hE hk (by rw [Fr.put_put] at hm'; exact hm')
def LZ (n:Nat) (i:Int):Option Unit:=if 0≤i∧i<n then some () else none
theorem BI {n:Nat} {i:Int} {u:Unit} (h:LZ n i=some u):0≤i∧i<n:=by
  unfold LZ at h
  split at h
  · assumption
  cases h
theorem AZ {T E:TypeId} {s x:Operand} {n sz j off:Nat} {i:Int} {k:IntKind} {oi:Oper} {d:List Deferred} (hk:Kn N e m t) (hop:oi.op=.indexAddr T s x) (hT:P.underlying T=some (.array n E)) (hsz:FW P E=some sz)
    (hs:DR m s=some (.c (.ptr j off))) (hx:DR m x=some (.c (.int k i))) (h0:0≤i) (hn:i<n) :
    (execOp (Act.mk t d).eval oi).run P w=.ok (.value (SV.den e (.one (.c (.ptr j (off+i.toNat*sz)))))) w:=by
  have q1:=Ap (d:=d) hk hs
  have q2:=Ap (d:=d) hk hx
  simp only [SA.den,SC.den] at q1 q2
  unfold execOp
  simp only [hop,q1,q2]
  have:(Instr.indexAt T (.pointer (some ⟨(e.blk j).1,(e.blk j).2+off,none⟩)) (.int k i)).run P w=.ok (.pointer (some ⟨(e.blk j).1,(e.blk j).2+(off+i.toNat*sz),none⟩)) w:=by
    unfold Instr.indexAt
    simp only [asIntOf,Instr.sureAddr,Sem.run_bind,Sem.run_pure,Result.andThen_ok,run_underlying hT]
    rw [if_pos ⟨h0,hn⟩]
    simp only [Sem.run_bind,BP w hsz,Result.andThen_ok,Sem.run_pure]
    rw [KH _ _ rfl]
    simp only [Nat.add_assoc]
  simp only [Sem.run_bind,this,Result.andThen_ok,Sem.run_pure,SV.den,SA.den,SC.den]
theorem CA {T:TypeId} {x:Operand} {j O:Nat} {p:C0} {c:SC} {oi:Oper} {d:List Deferred} (hk:Kn N e m t) (hS:Ay e pl w) (hop:oi.op=.load T x) (hx:DR m x=some (.c (.ptr j O))) (hj:pl[j]? = some p) (hT:OF P T=some false) (hc:(p.cells.drop O).take 1=[c]) :
    (execOp (Act.mk t d).eval oi).run P w=.ok (.value (SV.den e (.one (.c c)))) w:=by
  have hget:p.cells[O]? = some c:=by
    have:=congrArg (·[0]?) hc
    simpa [List.getElem?_take,List.getElem?_drop] using this
  have:=hS j p hj O c hget
  have q1:=Ap (d:=d) hk hx
  simp only [SA.den,SC.den] at q1
  unfold execOp
  simp only [hop,q1,Instr.loadAt,Instr.sureAddr,SV.den,SA.den,Sem.run_bind,Sem.run_pure,Result.andThen_ok,loadVar,Fi w hT,Bool.false_eq_true,if_false,run_load,this]
def Rd:List Nat→List C0→List C0
  | [],pl=>pl
  | i::is,pl=>Rd is (match pl[i]? with | some p=>pl.set i ⟨[],p.own⟩ | none=>pl)
theorem Ay.forget:∀ (is:List Nat) {pl:List C0},Ay e pl w→Ay e (Rd is pl) w
  | [],_,h=>h
  | i::is,pl,h=>by
    unfold Rd
    refine Ay.forget is ?_
    split
    · rename_i p hp
      intro j q hq k c hc
      by_cases hji:j=i
      · subst hji
        rw [List.getElem?_set_self (List.getElem?_eq_some_iff.1 hp).1] at hq
        cases hq
        simp at hc
      rw [List.getElem?_set_ne (Ne.symm hji)] at hq
      exact h j q hq k c hc
    exact h
theorem Re {ops:Array Oper} {X:List Nat} {m':TM} {d:List Deferred} {done:List Nat} (i:Nat) {oi:Oper} {dd:Nat} (v:SV) (hQ:QP Q)
    (hi:ops[i]? = some oi) (hs:Region.noSelect ops=true) (hf:KF ops X done i=true) (hmf:Gh oi=false) (hg:Region.wanted oi (yielded ops t)=true) (hdst:oi.dst=some dd) (hS:Ay e pl w)
    (hv:∀ w,Ay e pl w→(execOp (Act.mk t d).eval oi).run P w=.ok (.value (v.den e)) w)
    (hk':Kn N e m' (t.setIfInBounds dd (v.den e)))
    (H:∀ t',Kn N e m' t'→FK P ops X Q e pl (i::done) ⟨t',d⟩ w):FK P ops X Q e pl done ⟨t,d⟩ w:=by
  refine Sc hi hs hf (v:=v.den e) ?_ hS (.inl ⟨hg,fun w hw=>hv w hw⟩) (fun hm=>by rw [hmf] at hm; cases hm) ?_
  · intro c a w hq
    rw [hdst] at hq
    exact hQ c _ _ _ _ hq
  have:=H _ hk'
  rw [hdst]
  exact this
theorem F7 {α β:Type} (g:α→List β) (sz:Nat) (hg:∀ x,(g x).length=sz) (pre post:List β) (la lb:List α) (k:Nat) (v:α) (hb:lb=la.set k v) (hk:k<la.length) {A A':List β} (hA:A=pre++la.flatMap g++post) (hA':A' = pre++lb.flatMap g++post) {O:Nat} (hO:O=pre.length+k*sz) :
    A.take O++g v++A.drop (O+sz)=A':=by
  subst hA; subst hA'; subst hb; subst hO
  have key:∀ (la:List α)(k:Nat),k<la.length→(la.set k v).flatMap g=(la.flatMap g).take (k*sz)++g v++(la.flatMap g).drop (k*sz+sz):=by
    intro la
    induction la with
    | nil=>intro k hk; simp at hk
    | cons a r ih =>
      intro k hk
      cases k with
      | zero=>simp [List.drop_append,hg]
      | succ k =>
        have h1:(k+1)*sz=(g a).length+k*sz:=by rw [hg,Nat.succ_mul]; omega
        simp only [List.set_cons_succ,List.flatMap_cons,ih k (by simpa using hk),h1]
        rw [List.take_length_add_append,show(g a).length+k*sz+sz=(g a).length+(k*sz+sz) by omega,List.drop_length_add_append]
        simp
  have hlen:∀ la:List α,(la.flatMap g).length=la.length*sz:=by
    intro la
    induction la with
    | nil=>simp
    | cons a r ih=>rw [List.flatMap_cons,List.length_append,hg,ih,List.length_cons,Nat.succ_mul]; omega
  have h2:k*sz+sz≤(la.flatMap g).length:=by
    rw [hlen]
    calc k*sz+sz=(k+1)*sz:=(Nat.succ_mul k sz).symm
      _≤la.length*sz:=Nat.mul_le_mul_right sz hk
  rw [key la k hk]
  rw [List.append_assoc pre,List.take_length_add_append,show pre.length+k*sz+sz=pre.length+(k*sz+sz) by omega,List.drop_length_add_append]
  rw [List.take_append_of_le_length (by omega),List.drop_append_of_le_length h2]
  simp
theorem F8 {α β:Type} (g:α→List β) (sz:Nat) (hg:∀ x,(g x).length=sz) (pre post:List β) (la:List α) (k:Nat) (v:α) (hk:la[k]? = some v) {A:List β} (hA:A=pre++la.flatMap g++post) {O:Nat} (hO:O=pre.length+k*sz) :
    (A.drop O).take sz=g v:=by
  subst hA; subst hO
  have hlt:=(List.getElem?_eq_some_iff.1 hk).1
  have hlen:∀ la:List α,(la.flatMap g).length=la.length*sz:=by
    intro la
    induction la with
    | nil=>simp
    | cons a r ih=>rw [List.flatMap_cons,List.length_append,hg,ih,List.length_cons,Nat.succ_mul]; omega
  have key:∀ (la:List α)(k:Nat),la[k]? = some v→((la.flatMap g).drop (k*sz)).take sz=g v:=by
    intro la
    induction la with
    | nil=>intro k hk; simp at hk
    | cons a r ih =>
      intro k hk
      cases k with
      | zero =>
        simp at hk
        subst hk
        rw [Nat.zero_mul,List.drop_zero,List.flatMap_cons,← hg a,List.take_left]
      | succ k =>
        have h1:(k+1)*sz=(g a).length+k*sz:=by rw [hg,Nat.succ_mul]; omega
        rw [List.flatMap_cons,h1,List.drop_length_add_append]
        exact ih k (by simpa using hk)
  have h2:k*sz+sz≤(la.flatMap g).length:=by
    rw [hlen]
    calc k*sz+sz=(k+1)*sz:=(Nat.succ_mul k sz).symm
      _≤la.length*sz:=Nat.mul_le_mul_right sz hlt
  rw [List.append_assoc pre,List.drop_length_add_append,List.drop_append_of_le_length (by omega),List.take_append_of_le_length (by rw [List.length_drop]; omega)]
  exact key la k hk
structure Xz {σ:Type} (J:σ→Ac→World→Prop):Prop where
  has:∀ s h w,J s h w→CK h w
  grow:∀ s h h' w w',J s h w→Below w.heap.size w w'→Ac.le h h'→(∀ b o x,h' b o=some x→h b o=some x∨(w.heap.size≤b∧b<w'.heap.size∧Jo w' b o=some x))→J s h' w'
theorem Ai.new (hm:Ai F h e pl rw w):∀ b o x,h b o=some x→F.h b o=some x∨(F.w.heap.size≤b∧b<w.heap.size∧Jo w b o=some x):=fun b o x hx=>by
  obtain⟨ow,m⟩:=hm
  rcases m.old b o x hx with h1 | h1
  · exact .inl h1
  exact .inr ⟨h1,m.has b o x hx⟩
theorem Ai.le (hm:Ai F h e pl rw w):Ac.le F.h h:=let ⟨_,m⟩:=hm; m.le
theorem Ai.J {σ:Type} {J:σ→Ac→World→Prop} {s:σ} (hJ:Xz J) (hm:Ai F h e pl rw w) (hj:J s F.h F.w):J s h w:=hJ.grow s _ _ _ _ hj hm.below hm.le hm.new
theorem Ai.rebase {h':Ac} {w':World} (hm:Ai F h e pl rw w) (hle:Ac.le h h') (hh:CK h' w') (hp:(pl.all fun(p:C0)=>p.own.isNone)=true):Ai ⟨w',h',BF⟩ h' e pl [] w':=by
  obtain⟨ow,m⟩:=hm
  refine⟨fun _=>none,Below.refl _ _,Ac.le_refl _,fun _ _ _ hx=>.inl hx,hh,(by simp),(by simp),?_,(by simp),(by simp [BF])⟩
  intro i p hpi
  have:=m.pls i p hpi
  have ho:=List.all_eq_true.1 hp p (List.mem_of_getElem? hpi)
  unfold Cq at this ⊢
  split at this
  · rename_i hT; rw [hT] at ho; cases ho
  exact fun j c hj=>hle _ _ _ (this j c hj)
end
open Go Go.RowKit
open Rep (rep)
open KRep (kv)
open VRep (rv)
section
variable {P:Program}
def X0 (P:Program):Nat→TypeId→SA→SA→Option Bool
  | 0,_,_,_=>none
  | d+1,T,x,y=>match P.underlying T,x,y with
    | some (.int k),.c (.int _ a),.c (.int _ b)=>some (a == b)
    | some .bool,.c (.bool a),.c (.bool b)=>some (a == b)
    | some (.struct fs),.agg xs,.agg ys=>if P.stoodInHeld T then none else
      fs.toList.foldr (fun f acc=>if f.name = "_" then none else match LI P f.type xs f.offset,LI P f.type ys f.offset with
        | some a,some b=>match X0 P d f.type a b,acc with
          | some p,some q=>some (p && q)
          | _,_=>none
        | _,_=>none) (some true)
    | some (.array n E),.agg xs,.agg ys =>
      (List.range n).foldr (fun i acc=>match LI P E xs (i*P.cellsOf E),LI P E ys (i*P.cellsOf E) with
        | some a,some b=>match X0 P d E a b,acc with
          | some p,some q=>some (p && q)
          | _,_=>none
        | _,_=>none) (some true)
    | _,_,_=>none
def Ma (P:Program):Nat→TypeId→SA→Bool
  | 0,_,_=>false
  | d+1,T,x=>match P.underlying T,x with
    | some (.int k),.c (.int k' _)=>k == k'
    | some .bool,.c (.bool _)=>true
    | some (.struct fs),.agg xs=>fs.toList.all fun f=>match LI P f.type xs f.offset with
      | some a=>Ma P d f.type a
      | none=>false
    | some (.array n E),.agg xs=>(P.info? E).isSome && (List.range n).all fun i=>match LI P E xs (i*P.cellsOf E) with
      | some a=>Ma P d E a
      | none=>false
    | _,_=>false
theorem ML (e:AJ) (k:Nat):∀ (d:Nat) {T:TypeId} {x y:SA} {b:Bool} (w:World),Ma P d T x=true→Ma P d T y=true→X0 P d T x y=some b→(Op.equalIn (k+d) T (x.den e) (y.den e)).run P w=.ok b w
  | 0,_,_,_,_,_,_,_,h=>by simp [X0] at h
  | d+1,T,x,y,b,w,kx,ky,h=>by
    unfold X0 at h
    unfold Ma at kx ky
    rw [show k+(d+1)=(k+d)+1 from rfl]
    split at h
    · rename_i kk k1 a k2 b' hu
      cases h
      simp only [hu] at kx ky
      have e1:=eq_of_beq kx
      have e2:=eq_of_beq ky
      subst e1; subst e2
      exact run_equalIn_int w (k+d) T _ _ a b' hu
    · rename_i a b' hu
      cases h
      exact run_equalIn_bool' w (k+d) T a b' hu
    · rename_i fs xs ys hu
      simp only [hu] at kx ky
      split at h
      · cases h
      rename_i hst
      have hF:P.fieldsOf T=fs:=by unfold Program.fieldsOf; rw [hu]
      show(Op.equalIn (k+d+1) T (.agg _) (.agg _)).run P w=_
      rw [run_equalIn_struct w (k+d) T _ _ (by rw [hF]; exact hu) (by simpa using hst),hF]
      clear hF hu hst
      generalize fs.toList=l at h kx ky
      induction l generalizing b with
      | nil=>simp at h; subst h; rfl
      | cons f fs' ih =>
        simp only [List.foldr_cons] at h
        simp only [List.all_cons,Bool.and_eq_true] at kx ky
        split at h
        · cases h
        rename_i hn
        split at h
        · rename_i a c ha hc
          rw [ha] at kx
          rw [hc] at ky
          split at h
          · rename_i p q hp hq
            cases h
            unfold Op.eqFields
            rw [if_pos hn]
            simp only [Sem.run_bind,Ew e w ha,Ew e w hc,Result.andThen_ok,ML e k d w kx.1 ky.1 hp]
            cases p
            · rfl
            simp only [Bool.not_true,Bool.false_eq_true,if_false,Bool.true_and]
            exact ih q hq kx.2 ky.2
          cases h
        cases h
    · rename_i n E xs ys hu
      simp only [hu,Bool.and_eq_true] at kx ky
      obtain⟨i,hi⟩:=Option.isSome_iff_exists.1 kx.1
      show(Op.equalIn (k+d+1) T (.agg _) (.agg _)).run P w=_
      rw [run_equalIn_array w (k+d) _ _ hu hi]
      have kx:=kx.2
      have ky:=ky.2
      clear hu hi
      generalize List.range n=l at h kx ky
      induction l generalizing b with
      | nil=>simp at h; subst h; rfl
      | cons j l' ih =>
        simp only [List.foldr_cons] at h
        simp only [List.all_cons,Bool.and_eq_true] at kx ky
        split at h
        · rename_i a c ha hc
          rw [ha] at kx
          rw [hc] at ky
          split at h
          · rename_i p q hp hq
            cases h
            unfold Op.eqItems
            simp only [Sem.run_bind,Ew e w ha,Ew e w hc,Result.andThen_ok,ML e k d w kx.1 ky.1 hp]
            cases p
            · rfl
            simp only [Bool.not_true,Bool.false_eq_true,if_false,Bool.true_and]
            exact ih q hq kx.2 ky.2
          cases h
        cases h
    cases h
theorem I0 (e:AJ) (em:Bool) (k:Nat):∀ (d:Nat) {T:TypeId} {x:SA} (w:World),Ma P d T x=true→(Instr.checkKey em (k+d) T (x.den e)).run P w=.ok () w
  | 0,_,_,_,h=>by simp [Ma] at h
  | d+1,T,x,w,h=>by
    unfold Ma at h
    rw [show k+(d+1)=(k+d)+1 from rfl,Instr.checkKey]
    split at h
    · rename_i hu
      simp only [Sem.run_bind,run_underlying hu,Result.andThen_ok]
      rfl
    · rename_i hu
      simp only [Sem.run_bind,run_underlying hu,Result.andThen_ok]
      rfl
    · rename_i fs xs hu
      simp only [SA.den,Sem.run_bind,run_underlying hu,Result.andThen_ok]
      rw [← Array.forIn_toList]
      clear hu
      generalize fs.toList=l at h
      induction l generalizing w with
      | nil=>simp
      | cons f fs' ih =>
        simp only [List.all_cons,Bool.and_eq_true] at h
        have h1:=h.1
        split at h1
        · rename_i a ha
          simp only [List.forIn_cons,Sem.run_bind,Sem.run_ite]
          split
          · simp only [Sem.run_bind,Ew e w ha,Result.andThen_ok,I0 e em k d w h1,Sem.run_pure]
            exact ih w h.2
          simp only [Sem.run_pure,Result.andThen_ok]
          exact ih w h.2
        cases h1
    · rename_i n E xs hu
      simp only [Bool.and_eq_true] at h
      obtain⟨i,hi⟩:=Option.isSome_iff_exists.1 h.1
      have h:=h.2
      simp only [SA.den,Sem.run_bind,run_underlying hu,Result.andThen_ok]
      simp only [Std.Legacy.Range.forIn_eq_forIn_range',Std.Legacy.Range.size,Nat.sub_zero,Nat.add_one_sub_one,Nat.div_one]
      rw [List.range_eq_range'] at h
      generalize List.range' 0 n=l at h
      induction l with
      | nil=>simp
      | cons j l' ih =>
        simp only [List.all_cons,Bool.and_eq_true] at h
        have h1:=h.1
        split at h1
        · rename_i a ha
          simp only [List.forIn_cons,Sem.run_bind,run_sizeOf w hi,Result.andThen_ok,Ew e w ha,I0 e em k d w h1,Sem.run_pure]
          exact ih h.2
        cases h1
    cases h
def MM:List SC→Bool
  | []=>true
  | .int _ _::r=>MM r
  | .bool _::r=>MM r
  | _=>false
theorem Ha (e:AJ) (n:Nat):∀ {cs:List SC},MM cs=true→((cs.map (SC.den e)).zip (cs.map (SC.den e))).all (fun(x,y)=>Instr.sameBits n x y)=true
  | [],_=>rfl
  | .int k a::r,h=>by simp only [MM] at h; simp only [List.map_cons,List.zip_cons_cons,List.all_cons,Ha e n h]; simp [SC.den,Instr.sameBits]
  | .bool b::r,h=>by simp only [MM] at h; simp only [List.map_cons,List.zip_cons_cons,List.all_cons,Ha e n h]; simp [SC.den,Instr.sameBits]
theorem IB {K:Type} [KRep K] [DecidableEq K] {KT:TypeId} (w:World) (heq:∀ a b:K,(Op.equal KT (kv a) (kv b)).run P w=.ok (decide (a=b)) w) (k:K):∀ (es:List MapEntry)(i:Nat),(∀ e∈es,∃ q:K,e.key=kv q) →
    ((Instr.findAsking KT (kv k) es i).run P w=.ok none w∧∀ e∈es,e.key≠kv k)∨∃ j e,(Instr.findAsking KT (kv k) es i).run P w=.ok (some (i+j,e.val)) w∧es[j]? = some e∧e.key=kv k
  | [],i,_=>.inl ⟨rfl,by simp⟩
  | e::es,i,h=>by
    obtain⟨q,hq⟩:=h e (by simp)
    by_cases hk:k=q
    · subst hk
      refine .inr ⟨0,e,?_,rfl,hq⟩
      unfold Instr.findAsking
      simp only [hq,Sem.run_bind,heq,Result.andThen_ok,decide_true,if_true,Sem.run_pure,Nat.add_zero]
    have hne:e.key≠kv k:=fun he=>hk (KRep.inj (by rw [← he,hq]))
    have hrun:(Instr.findAsking KT (kv k) (e::es) i).run P w=(Instr.findAsking KT (kv k) es (i+1)).run P w:=by
      rw [Instr.findAsking]
      simp only [hq,Sem.run_bind,heq,Result.andThen_ok,hk,decide_false,Bool.false_eq_true,if_false]
    rcases IB w heq k es (i+1) (fun e he=>h e (by simp [he])) with⟨h1,h2⟩ | ⟨j,e',h1,h2,h3⟩
    · exact .inl ⟨by rw [hrun]; exact h1,fun x hx=>by
        rcases List.mem_cons.1 hx with rfl | hx
        · exact hne
        exact h2 x hx⟩
    exact .inr ⟨j+1,e',by rw [hrun,h1]; congr 3; omega,by simpa using h2,h3⟩
theorem KL.struct {K:Type} [KRep K] [DecidableEq K] {KT:TypeId} (d:Nat) (hd:decide (d≤10000)=true) (cs:K→List SC) (hkv:∀ k:K,kv k=.agg ((cs k).map (SC.den [])).toArray) (hw:(match P.underlying KT with | some (.array _ _) | some (.struct _)=>true | _=>false)=true)
    (hkind:∀ k:K,Ma P d KT (.agg (cs k))=true) (hp:∀ k:K,MM (cs k)=true) (heq:∀ a b:K,∃ r,X0 P d KT (.agg (cs a)) (.agg (cs b))=some r∧(r=true↔a=b)):KL P KT K:=by
  have hd:=of_decide_eq_true hd
  have h0:∀ (w:World)(a b:K),(Op.equal KT (kv a) (kv b)).run P w=.ok (decide (a=b)) w:=fun w a b=>by
    obtain⟨r,hr,hiff⟩:=heq a b
    have:=ML [] (10000-d) d w (hkind a) (hkind b) hr
    rw [show 10000-d+d=10000 by omega] at this
    rw [hkv a,hkv b]
    have hr2:decide (a=b)=r:=by
      cases r
      · have : ¬ a=b:=fun h=>by have:=hiff.2 h; cases this
        simp [this]
      have:=hiff.1 rfl
      simp [this]
    rw [hr2]
    exact this
  refine⟨fun w em k=>?_,fun w k es he=>?_,fun w k=>?_⟩
  · have:=I0 (P:=P) [] em (10000-d) d w (hkind k)
    rw [show 10000-d+d=10000 by omega] at this
    rw [hkv k]
    exact this
  · rw [run_findKey_eq (P:=P) w hw]
    have:=IB (P:=P) w (h0 w) k es 0 he
    simpa using this
  have:Instr.sameBits 10000 (kv k) (kv k)=true:=by
    rw [hkv k]
    show Instr.sameBits (9999+1) _ _=true
    simp only [Instr.sameBits,beq_self_eq_true,Bool.true_and]
    exact Ha [] 9999 (hp k)
  simp [Instr.keyThatStays,this]
end
open Go Go.RowKit
open Rep (rep)
open KRep (kv)
open VRep (rv)
theorem G2.split {α β:Type} {R:α→β→Prop}:∀ {as1:List α} {a:α} {as2:List α} {bs:List β},G2 R (as1++a::as2) bs→∃ bs1 b bs2,bs=bs1++b::bs2∧G2 R as1 bs1∧R a b∧G2 R as2 bs2
  | [],_,_,_,.cons h1 h2=>⟨[],_,_,rfl,.nil,h1,h2⟩
  | _::as1,a,as2,_,.cons h1 h2=>by
    obtain⟨bs1,b,bs2,rfl,q1,q2,q3⟩:=G2.split h2
    exact⟨_::bs1,b,bs2,rfl,.cons h1 q1,q2,q3⟩
section
variable {KK α:Type} [KRep KK] [VRep α]
def Kr (h:Ac) (es:Array MapEntry) (seen:Array Nat) (rem:List (KK×α)):Prop :=
  ∃ l,G2 (fun(e:MapEntry)(p:KK×α)=>e.key=kv p.1∧rv h p.2 e.val) (leftOf es seen).toList l∧l.Perm rem
theorem Kr.mono {h h':Ac} {es:Array MapEntry} {seen:Array Nat} {rem:List (KK×α)} (H:Kr h es seen rem) (hle:Ac.le h h'):Kr h' es seen rem:=by
  obtain⟨l,h1,h2⟩:=H
  exact⟨l,h1.imp fun _ _ ⟨q1,q2⟩=>⟨q1,VRep.mono hle q2⟩,h2⟩
theorem Tr (es:Array MapEntry):leftOf es #[]=es:=by
  unfold leftOf
  simp
theorem Kr.start {h:Ac} {es:Array MapEntry} {c:Nat} {l:List (KK×α)} (H:Cy h es.toList c l):Kr h es #[] l:=⟨l,by rw [Tr]; exact H.all,List.Perm.refl _⟩
theorem Kr.nil {h:Ac} {es:Array MapEntry} {seen:Array Nat} {rem:List (KK×α)} (H:Kr h es seen rem) (h0:(leftOf es seen).size=0):rem=[]:=by
  obtain⟨l,h1,h2⟩:=H
  have:(leftOf es seen).toList=[]:=by
    apply List.eq_nil_of_length_eq_zero
    simpa using h0
  rw [this] at h1
  cases h1
  exact List.nil_perm.1 h2
theorem Ts {L1 L2:List MapEntry} {en:MapEntry} (hn:((L1++en::L2).map (·.born)).Nodup):(L1++en::L2).filter (fun e=>!(e.born == en.born))=L1++L2:=by
  rw [List.map_append,List.map_cons,List.nodup_append] at hn
  obtain⟨_,h2,h3⟩:=hn
  have h4:=(List.nodup_cons.1 h2).1
  rw [List.filter_append,List.filter_cons]
  have e1:L1.filter (fun e=>!(e.born == en.born))=L1:=List.filter_eq_self.2 fun e he=>by
    have:=h3 e.born (List.mem_map.2 ⟨e,he,rfl⟩) en.born (by simp)
    simpa using this
  have e2:L2.filter (fun e=>!(e.born == en.born))=L2:=List.filter_eq_self.2 fun e he=>by
    have:e.born≠en.born:=fun hh=>h4 (by rw [← hh]; exact List.mem_map.2 ⟨e,he,rfl⟩)
    simpa using this
  rw [e1,e2]
  simp
theorem St (es:Array MapEntry) (seen:Array Nat) (b:Nat):(leftOf es (seen.push b)).toList=(leftOf es seen).toList.filter fun e=>!(e.born == b):=by
  unfold leftOf
  rw [Array.toList_filter,Array.toList_filter,List.filter_filter]
  congr 1
  funext e
  simp only [Array.contains_push]
  cases seen.contains e.born <;> cases hb:(e.born == b) <;> simp_all
theorem Kr.step {h:Ac} {es:Array MapEntry} {seen:Array Nat} {rem:List (KK×α)} (H:Kr h es seen rem) (hn:(es.toList.map (·.born)).Nodup) {en:MapEntry} (he:en∈(leftOf es seen).toList) :
    ∃ k x rem',en.key=kv k∧rv h x en.val∧rem.Perm ((k,x)::rem')∧Kr h es (seen.push en.born) rem':=by
  obtain⟨l,h1,h2⟩:=H
  obtain⟨L1,L2,hL⟩:=List.append_of_mem he
  have hsub:((leftOf es seen).toList.map (·.born)).Nodup:=by
    unfold leftOf
    rw [Array.toList_filter]
    exact hn.sublist (List.filter_sublist.map _)
  rw [hL] at h1 hsub
  obtain⟨l1,p,l2,rfl,q1,⟨q2,q3⟩,q4⟩:=G2.split h1
  refine⟨p.1,p.2,l1++l2,q2,q3,?_,⟨l1++l2,?_,List.Perm.refl _⟩⟩
  · exact h2.symm.trans List.perm_middle
  rw [St,hL,Ts hsub]
  exact q1.append q4
end
section
variable {P:Program} {Q:Exit→Act→World→Prop} {N:Nat} {F:Fr} {h:Ac} {e:AJ} {pl:List C0} {rw:List Ca} {w w':World} {m:TM} {t:Array Value} {dd:List Deferred} {o:Oper} {d:Nat} {K:Act→World→Prop} {KK α:Type} [KRep KK] [VRep α]
end
open Go Go.RowKit
open Rep (rep)
open KRep (kv)
open VRep (rv)
open Go.ChangeMaps (setBlock)
section
variable {P:Program} {Q:Exit→Act→World→Prop} {a:Act} {w:World} {N:Nat} {F:Fr} {h:Ac} {e:AJ} {pl:List C0} {rw:List Ca} {m:TM} {t:Array Value} {d:List Deferred} {ops:Array Oper}
theorem Su {F:Fence} {n0:Nat} {c:Code} (I:Nat→Act→World→Prop) (n:Nat) (h0:I n a w)
    (round:∀ n a w,I n a w→c.wpIn F n0 P (Exit.then (fun a' w'=>∃ m,m<n∧I m a' w') Q) a w):(Code.loop c).wpIn F n0 P Q a w:=by
  intro b k cs hro hb hr
  have key:∀ n a w,I n a w →
      ∃ e a' w',Q e a' w'∧ArrivesIn (Machine.fenced P F) P (lone (b.atR a (.code c::.inLoop c::k)) cs w) b k cs e a' w':=by
    intro n
    induction n using Nat.strongRecOn with
    | _ n ih =>
      intro a w hI
      obtain⟨e,a₁,w₁,hq,harr⟩:=round n a w hI b (.inLoop c::k) cs hro hb hr
      cases e with
      | normal =>
        obtain⟨m,hlt,hI₁⟩:=hq
        obtain⟨e₂,a₂,w₂,hq₂,harr₂⟩:=ih m hlt a₁ w₁ hI₁
        exact⟨e₂,a₂,w₂,hq₂,.of_steps (StepsIn.trans harr (.one (fenced_calm hb hr rfl) stepR_inLoop)) harr₂⟩
      | exit id=>exact⟨_,a₁,w₁,hq,.pass (x:=.inLoop c) rfl (fun _ _=>.inl (by simp)) harr⟩
      | goto l=>exact⟨_,a₁,w₁,hq,.pass (x:=.inLoop c) rfl (fun _ _=>.inl (by simp)) harr⟩
      | ret=>exact⟨_,a₁,w₁,hq,.pass (x:=.inLoop c) rfl (fun _ _=>.inl (by simp)) harr⟩
      | panic ch=>exact⟨_,a₁,w₁,hq,.pass (x:=.inLoop c) rfl (fun _ _=>.inl (by simp)) harr⟩
      | outgrown=>exact⟨_,a₁,w₁,hq,.pass (x:=.inLoop c) rfl (fun _ _=>.inl (by simp)) harr⟩
  obtain⟨e,a',w',hq,harr⟩:=key n a w h0
  exact⟨e,a',w',hq,.of_steps (.one (fenced_calm hb hr rfl) stepR_loop) harr⟩
structure ws (P:Program) (c:Code) (Q:Exit→Act→World→Prop) (a:Act) (w:World):Prop where
  wp:c.wp P Q a w
  rd : ¬ LetsOut Q→∀ l,c.wpIn (W3 l) 0 P Q a w
theorem VH {c:Code} {Q':Exit→Act→World→Prop} (h:ws P c Q a w) (hq:∀ e a w,Q e a w→Q' e a w):ws P c Q' a w :=
  ⟨wp_mono h.wp hq,fun hl l=>wpIn_mono (h.rd (fun⟨a,w,h1⟩=>hl ⟨a,w,hq _ _ _ h1⟩) l) hq⟩
theorem TR (h:Q .normal a w):ws P .skip Q a w:=⟨wp_skip h,fun _ _=>wpIn_skip h⟩
theorem W6 {id:Nat} (h:Q (.exit id) a w):ws P (.exit id) Q a w:=⟨wp_exit h,fun _ _=>wpIn_exit h⟩
theorem F9 {x y:Code} (h:ws P x (Exit.then (ws P y Q) Q) a w):ws P (.seq x y) Q a w :=
  ⟨wp_seq (wp_mono h.wp fun e a w hq=>by cases e <;> first | exact ws.wp hq | exact hq),
   fun hl l=>wpIn_seq (wpIn_mono (h.rd (fun⟨a,w,h1⟩=>hl ⟨a,w,h1⟩) l) fun e a w hq=>by cases e <;> first | exact ws.rd hq hl l | exact hq)⟩
theorem Jx {id:Nat} {c:Code} (h:ws P c (Exit.inBlock id Q) a w):ws P (.block id c) Q a w :=
  ⟨wp_block h.wp,fun hl l=>wpIn_block (h.rd (fun⟨a,w,h1⟩=>hl ⟨a,w,h1⟩) l)⟩
theorem UM {c:Code} (I:Nat→Act→World→Prop) (n:Nat) (h0:I n a w)
    (round:∀ n a w,I n a w→ws P c (Exit.then (fun a' w'=>∃ m,m<n∧I m a' w') Q) a w):ws P (.loop c) Q a w :=
  ⟨Av I n h0 fun n a w hI=>(round n a w hI).wp,fun hl l=>Su I n h0 fun n a w hI=>(round n a w hI).rd (fun⟨a,w,h1⟩=>hl ⟨a,w,h1⟩) l⟩
theorem TS {c:Code} (M:Act→World→Prop) (h1:ws P c (Exit.then M Q) a w) (h2:∀ a w,M a w→Q .normal a w):ws P c Q a w :=
  VH h1 fun e a w hq=>by cases e <;> first | exact h2 _ _ hq | exact hq
theorem OV {c:Operand} {x y:Code} (b:Bool) (hk:Kn N e m t) (hc:DR m c=some (.c (.bool b)))
    (h1:b=true→ws P x Q ⟨t,d⟩ w) (h2:b=false→ws P y Q ⟨t,d⟩ w):ws P (.cond c x y) Q ⟨t,d⟩ w :=
  ⟨wp_cond_split (Ap hk hc) (fun h=>(h1 h).wp) (fun h=>(h2 h).wp),fun hl l=>wpIn_cond_split (Ap hk hc) (fun h=>(h1 h).rd hl l) (fun h=>(h2 h).rd hl l)⟩
theorem AI {id:Nat} (hd:LR ops=true) (h:Cc P ops Q 0 a w):ws P (.region id ops false) Q a w:=⟨Aa h,fun hl _=>Tq hl hd h⟩
theorem N9 {id:Nat} (hd:LR ops=true) (hm:P.follows .mixedOrders=true) (h:Wf P ops Q [] a w.drew):ws P (.region id ops true) Q a w:=⟨Au hm h,fun hl _=>QX hl hd hm h⟩
structure Mb (r:Loop) (t:Array Value) (ps:Array Tmp) (assign body:Code):Prop where
  state:r.state=.ready
  pending:r.pending=none
  tmps:r.tmps=t
  params:r.params=ps
  assign:r.assign=assign
  body:r.body=body
theorem Mb.eq {r:Loop} {ps:Array Tmp} {assign body:Code} (h:Mb r t ps assign body) : { r with state:=.ready,pending:=none }=r:=by
  have h1:=h.state
  have h2:=h.pending
  cases r
  simp only at h1 h2
  subst h1; subst h2
  rfl
theorem TU {l:Nat} {r:Loop} {p0:Tmp} {assign body:Code} {v0:Value} {R:Bool→World→Prop} (hr:Mb r t #[p0] assign body) (hl:w.heap[l]? = some (.loop r))
    (H:ws P assign (Exit.then (fun a w=>w.heap[l]? = some (.loop r)∧ws P body (OU l r R) a (w.putObj l (.loop { r with state:=.busy }))) (fun _ _ _=>False)) ⟨t.setIfInBounds p0 v0,[]⟩ w):Yields P l #[v0] w R:=by
  obtain⟨h1,h2,h3,h4,h5,h6⟩:=hr
  subst h3; subst h5; subst h6
  refine Ql hl (by rw [h4]; rfl) ?_
  have hz:(r.params.zip #[v0]).foldl (fun tmps (t,a)=>tmps.setIfInBounds t a) r.tmps=r.tmps.setIfInBounds p0 v0:=by rw [h4]; simp
  rw [hz]
  refine wpIn_mono (H.rd (fun⟨_,_,h⟩=>h) l) fun e a w hq=>?_
  cases e with
  | normal=>exact⟨hq.1,h1,hq.2.rd (fun⟨_,_,h⟩=>h) l⟩
  | _=>exact hq
theorem W7 {l:Nat} {r:Loop} {p0 p1:Tmp} {assign body:Code} {v0 v1:Value} {R:Bool→World→Prop} (hr:Mb r t #[p0,p1] assign body) (hl:w.heap[l]? = some (.loop r))
    (H:ws P assign (Exit.then (fun a w=>w.heap[l]? = some (.loop r)∧ws P body (OU l r R) a (w.putObj l (.loop { r with state:=.busy }))) (fun _ _ _=>False)) ⟨(t.setIfInBounds p0 v0).setIfInBounds p1 v1,[]⟩ w):Yields P l #[v0,v1] w R:=by
  obtain⟨h1,h2,h3,h4,h5,h6⟩:=hr
  subst h3; subst h5; subst h6
  refine Ql hl (by rw [h4]; rfl) ?_
  have hz:(r.params.zip #[v0,v1]).foldl (fun tmps (t,a)=>tmps.setIfInBounds t a) r.tmps=(r.tmps.setIfInBounds p0 v0).setIfInBounds p1 v1:=by rw [h4]; simp
  rw [hz]
  refine wpIn_mono (H.rd (fun⟨_,_,h⟩=>h) l) fun e a w hq=>?_
  cases e with
  | normal=>exact⟨hq.1,h1,hq.2.rd (fun⟨_,_,h⟩=>h) l⟩
  | _=>exact hq
structure Gp (F:Fr) (bs:List Nat):Prop where
  nd:bs.Nodup
  X:∀ b∈bs,F.X b=some (.deferred (some []))
theorem Gp.nil (F:Fr):Gp F []:=⟨List.nodup_nil,by simp⟩
structure Fr.Of (w0:World) (h0:Ac) (F:Fr):Prop where
  w:F.w=w0
  h:F.h=h0
structure I1 (w0:World) (h0:Ac) (F:Fr) (l:Nat) (r:Loop) (bs:List Nat):Prop where
  of:Fr.Of w0 h0 F
  loop:F.X l=some (.loop r)
  marks:Gp F bs
theorem Gp.put {ks:List Nat} {b:Nat} {x:Option Obj} (H:Gp F ks) (hX:F.X b≠some (.deferred (some []))):Gp (F.put b x) ks :=
  ⟨H.nd,fun k hk=>by
    have h1:=H.X k hk
    have hne:k≠b:=fun hkb=>hX (by rw [← hkb]; exact h1)
    rw [Fr.put_ne _ _ hne]
    exact h1⟩
theorem Ai.X_new (hm:Ai F h e pl rw w) {b:Nat} (hb:w.heap.size≤b):F.X b=none:=by
  rcases MK (F.X b) with hx | ⟨x,hx⟩
  · exact hx
  have:=hm.extLt hx; omega
theorem Ai.loopBegin {bs:List Nat} {w0:World} {h0:Ac} (hm:Ai F h e pl rw w) (hk:Gp F bs) (ho:Fr.Of w0 h0 F) (r:Loop) :
    ∃ F':Fr,I1 w0 h0 F' (w.heap.size+1) r (w.heap.size::bs)∧(∀ b o,F.X b=some o→F'.X b=some o)∧Ai F' h e pl rw (Fu w r):=by
  have h1:F.X w.heap.size=none:=hm.X_new (Nat.le_refl _)
  have h2:F.X (w.heap.size+1)=none:=hm.X_new (by omega)
  refine⟨(F.put w.heap.size (some (.deferred (some [])))).put (w.heap.size+1) (some (.loop r)),⟨⟨ho.w,ho.h⟩,Fr.put_X _ _ _,?_⟩,fun b o hb=>?_,PH r hm⟩
  · refine⟨List.nodup_cons.2 ⟨fun hb=>?_,hk.nd⟩,fun b hb=>?_⟩
    · have:=hk.X _ hb
      rw [h1] at this
      cases this
    rcases List.mem_cons.1 hb with rfl | hb
    · rw [Fr.put_ne _ _ (by omega)]; exact Fr.put_X _ _ _
    have h3:=hk.X _ hb
    have e1:b≠w.heap.size:=fun hbe=>by rw [hbe,h1] at h3; cases h3
    have e2:b≠w.heap.size+1:=fun hbe=>by rw [hbe,h2] at h3; cases h3
    rw [Fr.put_ne _ _ e2,Fr.put_ne _ _ e1]
    exact h3
  have e1:b≠w.heap.size:=fun hbe=>by rw [hbe,h1] at hb; cases hb
  have e2:b≠w.heap.size+1:=fun hbe=>by rw [hbe,h2] at hb; cases hb
  rw [Fr.put_ne _ _ e2,Fr.put_ne _ _ e1]
  exact hb
theorem Ai.loopStep {l:Nat} {r:Loop} {bs:List Nat} {w0:World} {h0:Ac} (hm:Ai F h e pl rw w) (hl:I1 w0 h0 F l r bs) (r':Loop) :
    ∃ F':Fr,I1 w0 h0 F' l r' bs∧(∀ b es c,F.X b=some (.map es c)→F'.X b=some (.map es c))∧Ai F' h e pl rw (w.putObj l (.loop r')):=by
  refine⟨F.put l (some (.loop r')),⟨⟨hl.of.w,hl.of.h⟩,Fr.put_X _ _ _,hl.marks.put (by rw [hl.loop]; simp)⟩,fun b es c hb=>?_,hm.putLoop hl.loop rfl⟩
  have hne:b≠l:=fun hbe=>by rw [hbe,hl.loop] at hb; cases hb
  rw [Fr.put_ne _ _ hne]
  exact hb
theorem I1.put {l b:Nat} {r:Loop} {bs:List Nat} {w0:World} {h0:Ac} {es:Array MapEntry} {c:Nat} {x:Option Obj} (hl:I1 w0 h0 F l r bs) (hX:F.X b=none∨F.X b=some (.map es c)):I1 w0 h0 (F.put b x) l r bs:=by
  refine⟨⟨hl.of.w,hl.of.h⟩,?_,hl.marks.put (by rcases hX with hX | hX <;> rw [hX] <;> simp)⟩
  have hne:l≠b:=fun hbe=>by
    have:=hl.loop
    rw [hbe] at this
    rcases hX with hX | hX <;> rw [hX] at this <;> cases this
  rw [Fr.put_ne _ _ hne]
  exact hl.loop
theorem MN {g:Operand} {ps:Array Tmp} {assign body:Code} {f:FuncId} {first cap:Array Value} {d:List Deferred} (sv:SC) (hk:Kn N e m t) (hg:DR m g=some (.c sv)) (hsv:sv.den e=.func (.func f) first cap) (hent:∀ as w,(callFunc f as).run P w=.ok (.enter f as) w)
    (H:∀ r:Loop,Mb r t ps assign body→∃ S:World→Prop,Calls P f (first++#[.func (.yield (w.heap.size+1)) #[] #[]]++cap) (Fu w r) (fun en w'=>en=.returned (.tuple #[])∧S w') ∧
      ∀ w',S w'→w'.heap[w.heap.size+1]? = some (.loop r)∧Q .normal ⟨t,UL w.heap.size::d⟩ (w'.putObj (w.heap.size+1) (.loop { r with state:=.exhausted }))) :
    (Code.rangeFunc g ps assign body).wp P Q ⟨t,d⟩ w:=by
  have hge:=Ap (d:=d) hk hg
  simp only [SA.den,hsv] at hge
  refine VG hge hent fun fn=>?_
  obtain⟨S,h1,h2⟩:=H ⟨.ready,none,fn,t,ps,assign,body,w.heap.size⟩ ⟨rfl,rfl,rfl,rfl,rfl,rfl⟩
  refine h1.mono ?_
  rintro en w' ⟨rfl,hs⟩
  obtain⟨h3,h4⟩:=h2 w' hs
  exact⟨rfl,_,h3,by simp,rfl,h4⟩
theorem OW {fn:Func} {R:Ac→Value→Prop} {bs:List Nat} {w0:World} {h0:Ac} (sv:SV) (hk:Kn N e m t) (hm:Ai F h e pl rw w) (hb:Gp F bs) (ho:Fr.Of w0 h0 F) (hr:QU P m pl fn.results.toList=some sv) (hR:R h (sv.den e)) :
    bodyPostM Fence.wide 0 P fn (CP R h0 w0) .ret ⟨t,bs.map UL⟩ w:=by
  have:=W4 sv bs hk hm hb.nd hb.X hr hR
  rw [ho.w,ho.h] at this
  exact this
end
open Go Go.RowKit
open Rep (rep)
open KRep (kv)
open VRep (rv)
section
variable {KK α:Type} [KRep KK] [DecidableEq KK] [VRep α]
structure CF (h:Ac) (F:Fr) (bs:List (Option Nat)) (ms:List (Option (List (KK×α)))):Prop where
  len:bs.length=ms.length
  nd:∀ (i j b:Nat),bs[i]? = some (some b)→bs[j]? = some (some b)→i=j
  non:∀ (i:Nat),bs[i]? = some none→ms[i]? = some none
  ent:∀ (i b:Nat),bs[i]? = some (some b)→∃ m es c,ms[i]? = some (some m)∧F.X b=some (.map es c)∧Cy h es.toList c m
variable {h:Ac} {F:Fr} {bs:List (Option Nat)} {ms:List (Option (List (KK×α)))}
theorem CF.up {F':Fr} (H:CF h F bs ms) (hX:∀ b es c,F.X b=some (.map es c)→F'.X b=some (.map es c)):CF h F' bs ms :=
  ⟨H.len,H.nd,H.non,fun i b hb=>let ⟨m,es,c,h1,h2,h3⟩:=H.ent i b hb; ⟨m,es,c,h1,hX _ _ _ h2,h3⟩⟩
theorem CF.mono {h':Ac} (H:CF h F bs ms) (hle:Ac.le h h'):CF h' F bs ms :=
  ⟨H.len,H.nd,H.non,fun i b hb=>let ⟨m,es,c,h1,h2,h3⟩:=H.ent i b hb; ⟨m,es,c,h1,h2,h3.mono hle⟩⟩
theorem CF.nils (n:Nat):CF h F (List.replicate n none) (List.replicate n (none:Option (List (KK×α)))):=by
  refine⟨by simp,fun i j b hi _=>?_,fun i hi=>?_,fun i b hi=>?_⟩
  · rw [List.getElem?_replicate] at hi; split at hi <;> simp at hi
  · rw [List.getElem?_replicate] at hi ⊢; split at hi <;> simp_all
  rw [List.getElem?_replicate] at hi; split at hi <;> simp at hi
theorem CF.set {b:Nat} {es:Array MapEntry} {c:Nat} {m:List (KK×α)} {i:Nat} (H:CF h F bs ms) (hX:F.X b=none) (hE:Cy h es.toList c m) (hi:i<ms.length):CF h (F.put b (some (.map es c))) (bs.set i (some b)) (ms.set i (some m)):=by
  have hnb:∀ j,bs[j]?≠some (some b):=fun j hj=>by
    obtain⟨_,_,_,_,h2,_⟩:=H.ent j b hj
    rw [hX] at h2; cases h2
  have hl:=H.len
  refine⟨by simp [hl],fun j k b' hj hk=>?_,fun j hj=>?_,fun j b' hj=>?_⟩
  · by_cases hji:j=i
    · by_cases hki:k=i
      · rw [hji,hki]
      subst hji
      rw [List.getElem?_set_self (by omega)] at hj
      rw [List.getElem?_set_ne (Ne.symm hki)] at hk
      cases hj
      exact absurd hk (hnb k)
    rw [List.getElem?_set_ne (Ne.symm hji)] at hj
    by_cases hki:k=i
    · subst hki
      rw [List.getElem?_set_self (by omega)] at hk
      cases hk
      exact absurd hj (hnb j)
    rw [List.getElem?_set_ne (Ne.symm hki)] at hk
    exact H.nd j k b' hj hk
  · by_cases hji:j=i
    · subst hji; rw [List.getElem?_set_self (by omega)] at hj; cases hj
    rw [List.getElem?_set_ne (Ne.symm hji)] at hj ⊢; exact H.non j hj
  by_cases hji:j=i
  · subst hji
    rw [List.getElem?_set_self (by omega)] at hj
    cases hj
    exact⟨m,es,c,by rw [List.getElem?_set_self hi],Fr.put_X _ _ _,hE⟩
  rw [List.getElem?_set_ne (Ne.symm hji)] at hj ⊢
  obtain⟨m',es',c',h1,h2,h3⟩:=H.ent j b' hj
  have hne:b'≠b:=fun hb=>by rw [hb] at hj; exact hnb j hj
  exact⟨m',es',c',h1,by rw [Fr.put_ne _ _ hne]; exact h2,h3⟩
theorem CF.upd {b:Nat} {es':Array MapEntry} {c':Nat} {m':List (KK×α)} {i:Nat} (H:CF h F bs ms) (hb:bs[i]? = some (some b)) (hE:Cy h es'.toList c' m'):CF h (F.put b (some (.map es' c'))) bs (ms.set i (some m')):=by
  have hl:=H.len
  have hi:=(List.getElem?_eq_some_iff.1 hb).1
  refine⟨by simp [hl],H.nd,fun j hj=>?_,fun j b' hj=>?_⟩
  · have hji:j≠i:=fun hji=>by rw [hji,hb] at hj; cases hj
    rw [List.getElem?_set_ne (Ne.symm hji)]; exact H.non j hj
  by_cases hji:j=i
  · subst hji
    rw [hb] at hj
    cases hj
    exact⟨m',es',c',by rw [List.getElem?_set_self (by omega)],Fr.put_X _ _ _,hE⟩
  rw [List.getElem?_set_ne (Ne.symm hji)]
  obtain⟨m2,es2,c2,h1,h2,h3⟩:=H.ent j b' hj
  have hne:b'≠b:=fun hbb=>hji (H.nd j i b (by rw [← hbb]; exact hj) hb)
  exact⟨m2,es2,c2,h1,by rw [Fr.put_ne _ _ hne]; exact h2,h3⟩
theorem CF.get {i:Nat} {m:List (KK×α)} (H:CF h F bs ms) (hm:ms[i]? = some (some m)):∃ b es c,bs[i]? = some (some b)∧F.X b=some (.map es c)∧Cy h es.toList c m:=by
  have hi:=(List.getElem?_eq_some_iff.1 hm).1
  have hl:=H.len
  have hb:bs[i]? = some bs[i]:=List.getElem?_eq_getElem (by omega)
  cases hbi:bs[i] with
  | none=>rw [hbi] at hb; rw [H.non i hb] at hm; cases hm
  | some b =>
    rw [hbi] at hb
    obtain⟨m',es,c,h1,h2,h3⟩:=H.ent i b hb
    rw [hm] at h1
    cases h1
    exact⟨b,es,c,hb,h2,h3⟩
end
section
variable {N:Nat} {F:Fr} {h:Ac} {e:AJ} {pl:List C0} {rw:List Ca} {w w0:World} {h0:Ac} {KK α:Type} [KRep KK] [DecidableEq KK] [VRep α] {bs:List (Option Nat)} {ms:List (Option (List (KK×α)))} {ks:List Nat} {l:Nat} {r:Loop}
theorem CF.take {b:Nat} {es:Array MapEntry} {c:Nat} {m:List (KK×α)} {i:Nat} (H:CF h F bs ms) (hm:Ai (Fr.put F b (some (.map es c))) h e pl rw w) (hX:F.X b=none) (hE:Cy h es.toList c m) (hi:i<ms.length) (ho:Fr.Of w0 h0 F) (hk:Gp F ks) :
    ∃ F':Fr,Fr.Of w0 h0 F'∧Gp F' ks∧CF h F' (bs.set i (some b)) (ms.set i (some m))∧Ai F' h e pl rw w :=
  ⟨F.put b (some (.map es c)),⟨ho.w,ho.h⟩,hk.put (by rw [hX]; simp),H.set hX hE hi,hm⟩
theorem CF.settle (H:CF h F bs ms) (hm:Ai F h e pl rw w) (ho:Fr.Of w0 h0 F) (hk:Gp F ks):∀ n,∃ (h':Ac)(F':Fr),Ac.le h h'∧Fr.Of w0 h0 F'∧Gp F' ks∧Ai F' h' e pl rw w∧CF h' F bs ms∧(∀ (i b:Nat),n≤i→bs[i]? = some (some b)→F'.X b=F.X b) ∧
    ∀ (i b:Nat)(m:List (KK×α)),i<n→bs[i]? = some (some b)→ms[i]? = some (some m)→∃ es c,h' b 0=some (G1 es c)∧Cy h' es.toList c m
  | 0=>⟨h,F,Ac.le_refl _,ho,hk,hm,H,fun _ _ _ _=>rfl,fun _ _ _ hi=>by omega⟩
  | n+1=>by
    obtain⟨h1,F1,hle,ho1,hk1,hm1,H1,hX1,hs⟩:=CF.settle H hm ho hk n
    by_cases hb:∃ b,bs[n]? = some (some b)
    · obtain⟨b,hb⟩:=hb
      obtain⟨m,es,c,q1,q2,q3⟩:=H1.ent n b hb
      have q2':F1.X b=some (.map es c):=by rw [hX1 n b (Nat.le_refl _) hb]; exact q2
      obtain⟨h2,hle2,q4,hm2⟩:=hm1.settleMap q2'
      refine⟨h2,F1.put b none,Ac.le_trans hle hle2,⟨ho1.w,ho1.h⟩,hk1.put (by rw [q2']; simp),hm2,H1.mono hle2,fun i b' hi hb'=>?_,fun i b' m' hi hb' hm'=>?_⟩
      · have hne:b'≠b:=fun hbb=>by have:=H.nd i n b (by rw [← hbb]; exact hb') hb; omega
        rw [Fr.put_ne _ _ hne]
        exact hX1 i b' (by omega) hb'
      by_cases hin:i=n
      · subst hin
        rw [hb] at hb'
        cases hb'
        rw [q1] at hm'
        cases hm'
        exact⟨es,c,q4,q3.mono hle2⟩
      obtain⟨es',c',r1,r2⟩:=hs i b' m' (by omega) hb' hm'
      exact⟨es',c',hle2 _ _ _ r1,r2.mono hle2⟩
    exact⟨h1,F1,hle,ho1,hk1,hm1,H1,fun i b' hi hb'=>hX1 i b' (by omega) hb',fun i b' m' hi hb' hm'=>hs i b' m' (by
      have:i≠n:=fun hin=>hb ⟨b',by rw [← hin]; exact hb'⟩
      omega) hb' hm'⟩
theorem TV {α:Type}:∀ {ms:List (Option α)} {l:List α},ms.mapM id=some l→ms=l.map some
  | [],l,h=>by simp at h; subst h; rfl
  | x::ms,l,h=>by
    rw [List.mapM_cons] at h
    obtain⟨a,ha,h⟩:=Option.bind_eq_some_iff.1 h
    obtain⟨l',hl,h⟩:=Option.bind_eq_some_iff.1 h
    cases h
    rw [TV hl]
    simp only [id] at ha
    rw [ha]
    rfl
theorem OX {h:Ac}:∀ {bs:List (Option Nat)} {l:List (List (KK×α))},bs.length=l.length→(∀ (i:Nat)(m:List (KK×α)),l[i]? = some m→∃ (b:Nat)(es:Array MapEntry)(c:Nat),bs[i]? = some (some b)∧h b 0=some (G1 es c)∧Cy h es.toList c m)→Ae h (l.map VD.mk) (List.map Value.map bs)
  | [],[],_,_=>rfl
  | [],_::_,hl,_=>by simp at hl
  | _::_,[],hl,_=>by simp at hl
  | o::bs,m::l,hl,H=>by
    obtain⟨b,es,c,h1,h2,h3⟩:=H 0 m rfl
    simp at h1
    subst h1
    refine⟨[.map (some b)],List.map Value.map bs,rfl,⟨b,es,c,rfl,h2,h3⟩,OX (by simpa using hl) fun i m' hm'=>?_⟩
    simpa using H (i+1) m' (by simpa using hm')
theorem CF.settleAll {l:List (List (KK×α))} (H:CF h F bs ms) (hm:Ai F h e pl rw w) (ho:Fr.Of w0 h0 F) (hk:Gp F ks) (hl:ms.mapM id=some l) :
    ∃ (h':Ac)(F':Fr),Ac.le h h'∧Fr.Of w0 h0 F'∧Gp F' ks∧Ai F' h' e pl rw w∧Ae h' (l.map VD.mk) (List.map Value.map bs):=by
  obtain⟨h',F',h1,h2,h3,h4,h5,_,h6⟩:=H.settle hm ho hk bs.length
  have hms:=TV hl
  refine⟨h',F',h1,h2,h3,h4,OX (by rw [H.len,hms]; simp) fun i m hi=>?_⟩
  have hmi:ms[i]? = some (some m):=by rw [hms]; simp [hi]
  obtain⟨b,es,c,q1,q2,q3⟩:=H.get hmi
  obtain⟨es',c',q4,q5⟩:=h6 i b m (List.getElem?_eq_some_iff.1 q1).1 q1 hmi
  exact⟨b,es',c',q1,q4,q5⟩
end
open Go Go.RowKit
open Rep (rep)
open KRep (kv)
open VRep (rv)
abbrev tI (k:Nat) (x:Int):Nat×SV:=(k,.one (.c (.int .i64 x)))
abbrev tS (k:Nat) (a:Option Addr) (n c:Nat):Nat×SV:=(k,.one (.c (.slice a n c)))
abbrev tP (k i o:Nat):Nat×SV:=(k,.one (.c (.ptr i o)))
abbrev tB (k:Nat) (x:Bool):Nat×SV:=(k,.one (.c (.bool x)))
abbrev tA (k:Nat) (cs:List SC):Nat×SV:=(k,.one (.agg cs))
def VI (R:Ac→Value→List Ca→Prop) (h:Ac) (w:World) (en:Ending) (w':World):Prop :=
  ∃ v h' rs,en=.returned v∧Ai ⟨w,h,BF⟩ h' [] [] rs w'∧R h' v rs
section
variable {P:Program} {Q:Exit→Act→World→Prop} {N:Nat} {F:Fr} {h h':Ac} {e:AJ} {pl:List C0} {rw rs:List Ca} {w w':World} {m:TM} {t:Array Value} {o:Oper} {d:Nat} {dd:List Deferred} {K:Act→World→Prop}
theorem Ai.onlyRows (hm:Ai F h e pl rw w) (js:List Nat) (hj:Fk js=true) (hl:JX rw js=true):Ai ⟨F.w,F.h,BF⟩ h [] [] (pick rw js Ss) w:=by
  obtain⟨ow,m⟩:=hm
  have hn:=Dk hj
  refine⟨fun b=>match ow b with | some (.inr j)=>(js.idxOf? j).map .inr | _=>none,m.below,m.le,m.old,m.has,fun b x hx=>?_,fun b o x i _ hx=>?_,by simp,fun k r hk=>?_,by simp [BF]⟩
  · skip
    split at hx
    · rename_i j hj'
      exact m.ows b _ hj'
    cases hx
  · skip
    split at hx
    · obtain⟨_,_,h2⟩:=Option.map_eq_some_iff.1 hx
      cases h2
    cases hx
  unfold pick at hk
  rw [List.getElem?_map] at hk
  obtain⟨j,hj1,rfl⟩:=Option.map_eq_some_iff.1 hk
  have hlt:j<rw.length:=by
    have:=List.all_eq_true.1 hl j (List.mem_of_getElem? hj1)
    simpa using this
  have hr:rw[j]? = some (rw.getD j Ss):=by rw [List.getD_eq_getElem?_getD,List.getElem?_eq_getElem hlt]; rfl
  have:=m.rws j _ hr
  refine⟨this.own,this.frz,fun ad ha=>?_,this.one⟩
  obtain⟨h1,h2,h3⟩:=this.blk ad ha
  refine⟨?_,h2,h3⟩
  simp only [h1]
  rw [HT hn hj1]
  rfl
theorem Tt {w:World} {b b':Nat} {E:TypeId} {sz:Nat} {v:Value} {n:Nat} {xs:List Value} (h:w.ownsRow b E sz v n xs) (hb:b'≤b):w.ownsRow b' E sz v n xs:=by
  obtain⟨h1,h2 | ⟨g,cap,cur,h2,h3,h4⟩⟩:=h
  · exact⟨h1,.inl h2⟩
  exact⟨h1,.inr ⟨g,cap,cur,h2,Nat.le_trans hb h3,h4⟩⟩
theorem Ai.join (hm:Ai F h e pl rw w) (h2:Ai ⟨w,h,BF⟩ h' [] [] rs w'):Ai F h' e pl (rw++rs) w':=by
  obtain⟨ow,m⟩:=hm
  obtain⟨o2,m2⟩:=h2
  have hold:∀ b o,b<w.heap.size→h' b o=h b o:=fun b o hbl=>by
    cases hx:h b o with
    | some x=>exact m2.le b o x hx
    | none =>
      cases hy:h' b o with
      | none=>rfl
      | some y =>
        rcases m2.old b o y hy with h1 | h1
        · dsimp only at h1; rw [hx] at h1; cases h1
        dsimp only at h1; omega
  have hsz:F.w.heap.size≤w.heap.size:=m.below.size
  have hsz2:w.heap.size≤w'.heap.size:=m2.below.size
  have hblk:∀ b,b<w.heap.size→w'.heap[b]? = w.heap[b]?:=fun b hb=>m2.below.block b hb
  refine⟨fun b=>if b<w.heap.size then ow b else match o2 b with | some (.inr k)=>some (.inr (rw.length+k)) | _=>none,
    m.below.trans ⟨m2.below.os,m2.below.tape,m2.below.output,m2.below.size,fun k hk=>hblk k (Nat.lt_of_lt_of_le hk hsz)⟩,Ac.le_trans m.le m2.le,fun b o x hx=>?_,m2.has,fun b x hx=>?_,fun b o x i hx hb=>?_,fun i p hp=>?_,fun i r hr=>?_,fun b x hx=>?_⟩
  · rcases m2.old b o x hx with h1 | h1
    · exact m.old b o x h1
    exact .inr (Nat.le_trans hsz h1)
  · skip
    split at hx
    · obtain⟨h1,h2⟩:=m.ows b x hx
      exact⟨h1,by omega⟩
    split at hx
    · rename_i k hk
      obtain⟨h1,h2⟩:=m2.ows b _ hk
      exact⟨Nat.le_trans hsz h1,h2⟩
    cases hx
  · skip
    split at hb
    · rename_i hlt
      rw [hold b o hlt] at hx
      exact m.hown b o x i hx hb
    split at hb <;> cases hb
  · have:=m.pls i p hp
    unfold Cq at this ⊢
    split at this
    · rename_i T hT
      obtain⟨h1,h2,h3,h4⟩:=this
      have hlt:(e.blk i).1<w.heap.size:=(m.ows _ _ h1).2
      refine⟨by simp only [hlt,if_true]; exact h1,h2,by rw [hblk _ hlt]; exact h3,fun o=>by rw [hold _ _ hlt]; exact h4 o⟩
    exact fun j c hc=>m2.le _ _ _ (this j c hc)
  · rcases Nat.lt_or_ge i rw.length with hi | hi
    · rw [List.getElem?_append_left hi] at hr
      have:=m.rws i r hr
      refine⟨?_,this.frz,fun ad ha=>?_,this.one⟩
      · obtain⟨h1,h2 | ⟨g,cap,cur,h2,h3,h4,h5⟩⟩:=this.own
        · exact⟨h1,.inl h2⟩
        simp only [Value.slice.injEq] at h2
        obtain⟨h21,h22,h23⟩:=h2
        have hlt:g<w.heap.size:=(m.ows _ _ (this.blk _ h21).1).2
        exact⟨h1,.inr ⟨g,cap,cur,by rw [h21,h23],h3,by rw [hblk _ hlt]; exact h4,h5⟩⟩
      obtain⟨h1,h2,h3⟩:=this.blk ad ha
      have hlt:ad.block<w.heap.size:=(m.ows _ _ h1).2
      exact⟨by simp only [hlt,if_true]; exact h1,fun o ho=>by rw [hold _ _ hlt]; exact h2 o ho,fun o ho=>by rw [hold _ _ hlt]; exact h3 o ho⟩
    rw [List.getElem?_append_right hi] at hr
    have:=m2.rws _ r hr
    refine⟨Tt this.own hsz,this.frz,fun ad ha=>?_,this.one⟩
    obtain⟨h1,h2,h3⟩:=this.blk ad ha
    have hge : ¬ ad.block<w.heap.size:=by have:=(m2.ows _ _ h1).1; dsimp only at this; omega
    refine⟨?_,h2,h3⟩
    simp only [hge,if_false,h1]
    congr 2
    omega
  obtain⟨h1,h2,h3,h4,h5⟩:=m.ext b x hx
  exact⟨h1,by omega,by rw [hblk _ h2]; exact h3,by simp only [h2,if_true]; exact h4,h5.same fun o=>hold b o h2⟩
theorem Og {fn:Func} {R:Ac→Value→List Ca→Prop} (sv:SV) (js:List Nat) (hk:Kn N e m t) (hm:Ai F h e pl rw w) (hj:Fk js=true) (hl:JX rw js=true) (hr:QU P m pl fn.results.toList=some sv) (hR:R h (sv.den e) (pick rw js Ss)) :
    bodyPost P fn (VI R F.h F.w) .ret ⟨t,[]⟩ w:=⟨rfl,_,Ix hk hm.plOk hr,_,_,_,rfl,hm.onlyRows js hj hl,hR⟩
theorem ET {f:FuncId} {args:Array Operand} {tys:Array TypeId} {R:Ac→Value→List Ca→Prop} (vs:List SA) (vals:Array Value) (hk:Kn N e m t) (hm:Ai F h e pl rw w) (hop:o.op=.call ⟨.value (.func f),args,tys⟩) (hd:o.dst=some d) (hlt:d<N)
    (hargs:II m args.toList=some vs) (hvals:(vs.map (SA.den e)).toArray=vals) (hent:∀ args w,(callFunc f args).run P w=.ok (.enter f args) w) (hcall:Calls P f vals w (VI R h w))
    (hK:∀ v h' w' rs,R h' v rs→Ac.le h h'→Ai F h' e pl (rw++rs) w'→∃ sv:SV,sv.den e=v∧∀ t',Kn N e (m.put d sv) t'→K ⟨t',dd⟩ w'):o.wp P ⟨t,dd⟩ w K Q:=by
  refine HU vs vals hk hop hd hlt hargs hvals hent (S:=fun v w'=>∃ h' rs,Ai ⟨w,h,BF⟩ h' [] [] rs w'∧R h' v rs) (hcall.mono ?_) ?_
  · rintro en w' ⟨v,h',rs,rfl,h1,h2⟩
    exact⟨v,rfl,h',rs,h1,h2⟩
  rintro v w' ⟨h',rs,h1,h2⟩
  have hle:Ac.le h h':=by obtain⟨_,m2⟩:=h1; exact m2.le
  exact hK v h' w' rs h2 hle (hm.join h1)
end
open Go Go.RowKit
abbrev dn:Nat→List Nat
  | 0=>[0]
  | n+1=>(n+1)::dn n
section
variable {P:Program} {ops:Array Oper} {N:Nat} {F:Fr} {h:Ac} {e:AJ} {pl:List C0} {rw:List Ca} {m m':TM} {t:Array Value} {dd d:List Deferred} {w:World} {Q:Exit→Act→World→Prop} {K:Act→World→Prop} {o:Oper} {k:Nat}
theorem wf {i:Nat} {a:Act} (H:Q .normal a w) (hi:ops.size≤i:=by decide):Cc P ops Q i a w:=Tj hi H
theorem wl {i:Nat} {a:Act} (H:∀ K:Act→World→Prop,(∀ a' w',Cc P ops Q (i+1) a' w'→K a' w')→o.wp P a w K Q) (hi:ops[i]? = some o:=by rfl) (hw:Region.wanted o (yielded ops a.tmps)=true:=by rfl):Cc P ops Q i a w:=AD o hi hw H
theorem Rk (i n:Nat) (m':TM) (hk:Kn N e m t) (hm:Ai F h e pl rw w) (H:∀ t',Kn N e m' t'→Cc P ops Q (i+n) ⟨t',d⟩ w) (hr:(PC P ops N pl i n m).map (fun x=>FV x (m'.map Prod.fst))=some m':=by kernel_rfl):Cc P ops Q i ⟨t,d⟩ w:=F4 i n _ m' hk hm.plOk hr H
theorem Kn.kp (hk:Kn N e m t) (H:FV m (m'.map Prod.fst)=m':=by rfl):Kn N e m' t:=hk.keep _ H
theorem wC {c:Operand} {x y:Code} (b:Bool) (hk:Kn N e m t) (h1:b=true→x.wp P Q ⟨t,d⟩ w) (h2:b=false→y.wp P Q ⟨t,d⟩ w) (hc:DR m c=some (.c (.bool b)):=by kernel_rfl):(Code.cond c x y).wp P Q ⟨t,d⟩ w:=Tm b hk hc h1 h2
theorem rt {fn:Func} {R:Ac→Value→Prop} (sv:SV) (hk:Kn N e m t) (hm:Ai F h e pl rw w) (hR:R h (sv.den e)) (hr:QU P m pl fn.results.toList=some sv:=by kernel_rfl):bodyPost P fn (CP R F.h F.w) .ret ⟨t,[]⟩ w:=Xs sv hk hm hr hR
theorem wc {f:FuncId} {args:Array Operand} {tys:Array TypeId} {R:Ac→Value→Prop} {vals:Array Value} (vs:List SA) (hk:Kn N e m t) (hm:Ai F h e pl rw w) (hcall:Calls P f vals w (CP R h w))
    (hK:∀ v h' w',R h' v→Ac.le h h'→Ai F h' e pl rw w'→∃ sv:SV,sv.den e=v∧∀ t',Kn N e (m.put k sv) t'→K ⟨t',dd⟩ w')
    (hop:o.op=.call ⟨.value (.func f),args,tys⟩:=by rfl) (hd:o.dst=some k:=by rfl) (hlt:k<N:=by decide)
    (hargs:II m args.toList=some vs:=by rfl) (hvals:(vs.map (SA.den e)).toArray=vals:=by rfl) (hent:∀ args w,(callFunc f args).run P w=.ok (.enter f args) w:=by exact fun _ _=>by kernel_rfl):o.wp P ⟨t,dd⟩ w K Q:=W1 vs vals hk hm hop hd hlt hargs hvals hent hcall hK
theorem wb {T:TypeId} {x:Operand} (v:SA) (hk:Kn N e m t) (hm:Ai F h e pl rw w)
    (hK:∀ b t' w',Kn N (e++[(b,0)]) (m.put k (.one (.c (.ptr e.length 0)))) t'→Ai F h (e++[(b,0)]) (pl++[⟨v.cells,some T⟩]) rw w'→K ⟨t',dd⟩ w')
    (hop:o.op=.box T x:=by rfl) (hd:o.dst=some k:=by rfl) (hlt:k<N:=by decide) (hok:N3 e pl m=true:=by kernel_rfl) (hx:DR m x=some v:=by kernel_rfl) (hcs:Kb e.length v.cells=true:=by kernel_rfl):o.wp P ⟨t,dd⟩ w K Q:=Xr v hk hm hop hd hlt hok hx hcs hK
theorem wa {T:TypeId} (cs:List SC) (hk:Kn N e m t) (hm:Ai F h e pl rw w)
    (hK:∀ b t' w',Kn N (e++[(b,0)]) (m.put k (.one (.c (.ptr e.length 0)))) t'→Ai F h (e++[(b,0)]) (pl++[⟨cs,some T⟩]) rw w'→K ⟨t',dd⟩ w')
    (hop:o.op=.alloc T:=by rfl) (hd:o.dst=some k:=by rfl) (hlt:k<N:=by decide) (hok:N3 e pl m=true:=by kernel_rfl) (hz:Jh P T=some cs:=by kernel_rfl) (hcs:Kb e.length cs=true:=by kernel_rfl):o.wp P ⟨t,dd⟩ w K Q:=V6 cs hk hm hop hd hlt hok hz hcs hK
theorem DT {T:TypeId} {x y:Operand} (i off:Nat) (v:SA) (cs:List SC) {TT:TypeId} {p:List SC} (hk:Kn N e m t) (hm:Ai F h e pl rw w)
    (hK:∀ w',Kn N e m t→Ai F h e (pl.set i ⟨cs,some TT⟩) rw w'→K ⟨t,dd⟩ w')
    (hop:o.op=.store T x y:=by rfl) (hd:o.dst=none:=by rfl) (hx:DR m x=some (.c (.ptr i off)):=by rfl) (hy:DR m y=some v:=by rfl) (hp:pl[i]? = some ⟨p,some TT⟩:=by rfl) (hsz:FW P T=some v.cells.length:=by kernel_rfl) (hfit:decide (off+v.cells.length≤p.length)=true:=by kernel_rfl)
    (hcs:p.take off++v.cells++p.drop (off+v.cells.length)=cs:=by rfl):o.wp P ⟨t,dd⟩ w K Q:=DS i off v cs hk hm hop hd hx hy hp hsz hfit hcs hK
theorem wS {T:TypeId} {len:Nat} {parts:Array (Nat×Operand)} (E:TypeId) (sz:Nat) (cs:List SC) (hk:Kn N e m t) (hm:Ai F h e pl rw w)
    (hK:∀ a t' w',Kn N e (m.put k (.one (.c (.slice a len len)))) t'→Ai F h e pl (rw++[⟨a,len,len,E,sz,cs.map (SC.den e),0⟩]) w'→K ⟨t',dd⟩ w')
    (hop:o.op=.buildSlice T len parts:=by rfl) (hd:o.dst=some k:=by rfl) (hlt:k<N:=by decide) (hq:Iy P m T len parts.toList=some cs:=by kernel_rfl) (hT:P.underlying T=some (.slice E):=by rfl) (hsz:FW P E=some sz:=by rfl) (hl:cs.length=len*sz:=by rfl) (hlen:decide (len≤1000000000)=true:=by decide):o.wp P ⟨t,dd⟩ w K Q :=
  PF E sz cs hk hm hop hd hlt hq hT hsz hl hlen hK
end
section
variable {P:Program} {ops:Array Oper} {X:List Nat} {Q:Exit→Act→World→Prop} {N:Nat} {e:AJ} {pl:List C0} {rw:List Ca} {w:World} {d:List Deferred} {m:TM} {t:Array Value} {done:List Nat} {F:Fr} {h:Ac}
theorem Dr (is done':List Nat) (m':TM) (hk:Kn N e m t) (hm:Ai F h e pl rw w) (H:∀ t',Kn N e m' t'→FK P ops X Q e pl done' ⟨t',d⟩ w) (hQ:QP Q:=by exact fun _ _ _ _ _ h=>h)
    (hs:Region.noSelect ops=true:=by kernel_rfl) (hd:is.reverseAux done=done':=by rfl) (hr:(Sf P ops X N pl is done m).map (fun x=>FV x (m'.map Prod.fst))=some m':=by kernel_rfl):FK P ops X Q e pl done ⟨t,d⟩ w:=Dj is done' _ m' hQ hk hm.plOk hs hd hr H
theorem Dl {a:Act} (i:Nat) {oi:Oper} (H:∀ K:Act→World→Prop,(∀ a' w',Ay e pl w'→FK P ops X Q e pl (i::done) a' w'→K a' w')→oi.wp P a w K Q) (hi:ops[i]? = some oi:=by rfl) (hr:Region.ready .any ops (AY ops.size done)=[i]:=by kernel_rfl) (hl:done.length<ops.size:=by first | decide | exact Nat.le_of_ble_eq_true rfl)
    (hw:Region.wanted oi (yielded ops a.tmps)=true:=by rfl):FK P ops X Q e pl done a w:=QQ i hi hr hl hw H
end
open Go Go.RowKit
theorem I2 (x:Nat×Nat):∀ (e:AJ) {i j:Nat},i≠j→AJ.blk (e.set i x) j=e.blk j
  | [],i,j,_=>rfl
  | y::r,0,0,h=>absurd rfl h
  | y::r,0,j+1,_=>rfl
  | y::r,i+1,0,_=>rfl
  | y::r,i+1,j+1,h=>I2 x r (fun q=>h (by rw [q]))
theorem I3 (x:Nat×Nat):∀ (e:AJ) {i:Nat},i<e.length→AJ.blk (e.set i x) i=x
  | [],i,h=>by simp at h
  | y::r,0,_=>rfl
  | y::r,i+1,h=>I3 x r (by simpa using h)
def SC.noB (n:Nat):SC→Bool
  | .ptr i _=>!(Nat.beq i n)
  | _=>true
def OY (n:Nat):List SC→Bool
  | []=>true
  | c::r=>c.noB n && OY n r
def UN (n:Nat):List C0→Bool
  | []=>true
  | p::r=>OY n p.cells && UN n r
def SA.noB (n:Nat):SA→Bool
  | .c x=>x.noB n
  | .agg xs=>OY n xs
def W8 (n:Nat):List SA→Bool
  | []=>true
  | c::r=>c.noB n && W8 n r
def SV.noB (n:Nat):SV→Bool
  | .one x=>x.noB n
  | .tup xs=>W8 n xs
  | .undef=>true
def VJ (n:Nat):TM→Bool
  | []=>true
  | (_,v)::r=>v.noB n && VJ n r
theorem Oh {e:AJ} {i:Nat} {x:Nat×Nat} {c:SC} (h:c.noB i=true):c.den (e.set i x)=c.den e:=by
  cases c <;> first | rfl | skip
  case ptr j off =>
    have hi:i≠j:=fun q=>by subst q; simp [SC.noB] at h
    simp [SC.den,I2 x e hi]
theorem Mc {n:Nat}:∀ {cs:List SC},OY n cs=true→∀ c∈cs,c.noB n=true
  | [],_,c,hc=>by simp at hc
  | x::r,h,c,hc=>by
    simp only [OY,Bool.and_eq_true] at h
    rcases List.mem_cons.1 hc with rfl | hc
    · exact h.1
    exact Mc h.2 c hc
theorem Jy {e:AJ} {i:Nat} {x:Nat×Nat} {cs:List SC} (h:OY i cs=true):cs.map (SC.den (e.set i x))=cs.map (SC.den e) :=
  List.map_congr_left fun c hc=>Oh (Mc h c hc)
theorem Sv {e:AJ} {i:Nat} {x:Nat×Nat} {c:SA} (h:c.noB i=true):c.den (e.set i x)=c.den e:=by
  cases c with
  | c x=>exact Oh h
  | agg xs=>simp only [SA.den]; rw [Jy h]
theorem VK {e:AJ} {i:Nat} {x:Nat×Nat} {c:SV} (h:c.noB i=true):c.den (e.set i x)=c.den e:=by
  cases c with
  | one x=>exact Sv h
  | tup xs =>
    simp only [SV.den]
    congr 2
    have:∀ (xs:List SA),W8 i xs=true→xs.map (SA.den (e.set i x))=xs.map (SA.den e):=by
      intro xs
      induction xs with
      | nil=>simp
      | cons y r ih =>
        intro h
        simp only [W8,Bool.and_eq_true] at h
        simp [Sv h.1,ih h.2]
    exact this xs h
  | undef=>rfl
theorem Sw {n:Nat}:∀ {m:TM},VJ n m=true→∀ {k v},m.get k=some v→v.noB n=true
  | [],_,k,v,hk=>by simp [TM.get] at hk
  | (j,u)::r,h,k,v,hk=>by
    simp only [VJ,Bool.and_eq_true] at h
    unfold TM.get at hk
    cases hb:Nat.beq j k with
    | true=>rw [hb] at hk; simp at hk; subst hk; exact h.1
    | false=>rw [hb] at hk; exact Sw h.2 hk
theorem OZ {n:Nat}:∀ {pl:List C0},UN n pl=true→∀ {i:Nat} {p:C0},pl[i]? = some p→OY n p.cells=true
  | [],_,i,p,hp=>by simp at hp
  | q::r,h,i,p,hp=>by
    simp only [UN,Bool.and_eq_true] at h
    cases i with
    | zero=>simp at hp; subst hp; exact h.1
    | succ i=>exact OZ h.2 (by simpa using hp)
section
variable {P:Program} {N:Nat} {F:Fr} {h:Ac} {e:AJ} {pl:List C0} {rw:List Ca} {m:TM} {t:Array Value} {dd:List Deferred} {w w':World}
  {o:Oper} {K:Act→World→Prop} {Q:Exit→Act→World→Prop} {d:Nat}
theorem Kn.setE (hk:Kn N e m t) (i:Nat) (x:Nat×Nat) (h:VJ i m=true):Kn N (e.set i x) m t :=
  ⟨hk.size,fun k v hv=>by rw [VK (Sw h hv)]; exact hk.get k v hv⟩
theorem Ai.newPlcAt {b:Nat} {T:TypeId} {cs:List SC} (i:Nat) (hm:Ai F h e pl rw w) (hg:w.grownBy w' none) (hb:w.heap.size≤b) (hb':b<w'.heap.size)
    (hv:w'.heap[b]? = some (.cells (cs.map (SC.den e)).toArray T (0,0))) (hl:pl.length=e.length) (hi:i<e.length) (h1:UN i pl=true) (h2:OY i cs=true) :
    Ai F h (e.set i (b,0)) (pl.set i ⟨cs,some T⟩) rw w':=by
  obtain⟨ow,m⟩:=hm
  have m':=m.grow hg
  have hn:ow b=none:=by
    cases hx:ow b with
    | none=>rfl
    | some x=>have:=(m.ows b x hx).2; omega
  have hhn:∀ o,h b o=none:=fun o=>by
    cases hx:h b o with
    | none=>rfl
    | some x=>have:=(m.has b o x hx).1; omega
  refine⟨fun k=>if k=b then some (.inl i) else ow k,m'.below,m'.le,m'.old,m'.has,?_,?_,?_,?_,?_⟩
  · intro k x hk
    by_cases hkb:k=b
    · subst hkb; exact⟨Nat.le_trans m.below.size hb,hb'⟩
    simp only [hkb,if_false] at hk; exact m'.ows k x hk
  · intro k o x i hk hi
    by_cases hkb:k=b
    · subst hkb; rw [hhn o] at hk; cases hk
    simp only [hkb,if_false] at hi; exact m.hown k o x i hk hi
  · intro j p hp
    rw [List.getElem?_set] at hp
    by_cases hij:i=j
    · subst hij
      rw [if_pos rfl,if_pos (by omega)] at hp
      cases hp
      unfold Cq
      simp only [I3 (b,0) e hi,if_true,true_and,Jy h2]
      exact⟨hv,hhn⟩
    rw [if_neg hij] at hp
    have:=m'.pls j p hp
    have hc:=OZ h1 hp
    unfold Cq at this ⊢
    rw [I2 (b,0) e hij,Jy hc]
    split at this
    · obtain⟨q1,q2⟩:=this
      refine⟨?_,q2⟩
      by_cases hkb:(AJ.blk e j).1=b
      · rw [hkb,hn] at q1; cases q1
      simp only [hkb,if_false]; exact q1
    intro k c hk
    rw [Oh (Mc hc c (List.mem_of_getElem? hk))]
    exact this k c hk
  · intro i r hr
    obtain⟨q1,q2,q3,q9⟩:=m'.rws i r hr
    refine⟨q1,q2,fun ad ha=>?_,q9⟩
    obtain⟨q4,q5⟩:=q3 ad ha
    refine⟨?_,q5⟩
    by_cases hkb:ad.block=b
    · rw [hkb,hn] at q4; cases q4
    simp only [hkb,if_false]; exact q4
  intro k x hk
  obtain⟨q1,q2,q3,q4,q5⟩:=m'.ext k x hk
  refine⟨q1,q2,q3,?_,q5⟩
  have hkb:k≠b:=fun q=>by subst q; have:=(m.ext k x hk).2.1; omega
  simp only [hkb,if_false]; exact q4
theorem Ay.unset (i:Nat) {x:Nat×Nat} {p:C0} (hi:pl[i]? = some ⟨[],none⟩) (h1:UN i pl=true) (hp:Ay (e.set i x) (pl.set i p) w):Ay e pl w:=by
  intro j q hq k c hc
  by_cases hij:i=j
  · subst hij; rw [hi] at hq; cases hq; simp at hc
  have hcs:=OZ h1 hq
  have h2:(pl.set i p)[j]? = some q:=by rw [List.getElem?_set,if_neg hij]; exact hq
  have:=hp j q h2 k c hc
  rw [I2 x e hij,Oh (Mc hcs c (List.mem_of_getElem? hc))] at this
  exact this
def TW (i:Nat) (e:AJ) (pl:List C0) (m:TM):Bool:=decide (pl.length=e.length) && decide (i<e.length) && UN i pl && VJ i m
theorem Sx {T:TypeId} {v:Value} {cs:List SC} (i:Nat) (hk:Kn N e m t) (hm:Ai F h e pl rw w) (hd:o.dst=some d) (hlt:d<N) (hok:TW i e pl m=true) (hcs:OY i cs=true)
    (hv:v.cells=(cs.map (SC.den e)).toArray) (hr:(execOp (Act.mk t dd).eval o).run P w=.ok (.value (.pointer (some ⟨w.heap.size,0,none⟩))) (w.alloc (.cells v.cells T)))
    (hK:∀ b t' w',Kn N (e.set i (b,0)) (m.put d (.one (.c (.ptr i 0)))) t'→Ai F h (e.set i (b,0)) (pl.set i ⟨cs,some T⟩) rw w'→K ⟨t',dd⟩ w'):o.wp P ⟨t,dd⟩ w K Q:=by
  simp only [TW,Bool.and_eq_true,decide_eq_true_eq] at hok
  obtain⟨⟨⟨h1,h2⟩,h3⟩,h4⟩:=hok
  unfold Oper.wp
  rw [hr]
  show K _ _
  rw [CV t dd hd]
  refine hK w.heap.size _ _ ?_ (hm.newPlcAt i (World.grownBy_alloc w _ none) (Nat.le_refl _) (by simp) (by rw [Qg,hv]) h1 h2 h3 hcs)
  have:=(hk.setE i (w.heap.size,0) h4).put hlt (.one (.c (.ptr i 0)))
  simpa [SV.den,SA.den,SC.den,I3 _ e h2] using this
theorem MO {T:TypeId} (i:Nat) (cs:List SC) (hk:Kn N e m t) (hm:Ai F h e pl rw w)
    (hK:∀ b t' w',Kn N (e.set i (b,0)) (m.put d (.one (.c (.ptr i 0)))) t'→Ai F h (e.set i (b,0)) (pl.set i ⟨cs,some T⟩) rw w'→K ⟨t',dd⟩ w')
    (hop:o.op=.alloc T:=by rfl) (hd:o.dst=some d:=by rfl) (hlt:d<N:=by decide) (hok:TW i e pl m=true:=by kernel_rfl) (hz:Jh P T=some cs:=by kernel_rfl) (hcs:OY i cs=true:=by kernel_rfl):o.wp P ⟨t,dd⟩ w K Q:=by
  obtain⟨z,h1,h2⟩:=EA e w hz
  refine Sx i hk hm hd hlt hok hcs h2 ?_ hK
  unfold execOp
  simp only [hop,Instr.alloc,Sem.run_bind,h1,Result.andThen_ok,Iw,Sem.run_pure]
theorem XP {T:TypeId} {x:Operand} (i:Nat) (v:SA) (hk:Kn N e m t) (hm:Ai F h e pl rw w)
    (hK:∀ b t' w',Kn N (e.set i (b,0)) (m.put d (.one (.c (.ptr i 0)))) t'→Ai F h (e.set i (b,0)) (pl.set i ⟨v.cells,some T⟩) rw w'→K ⟨t',dd⟩ w')
    (hop:o.op=.box T x:=by rfl) (hd:o.dst=some d:=by rfl) (hlt:d<N:=by decide) (hok:TW i e pl m=true:=by kernel_rfl) (hx:DR m x=some v:=by kernel_rfl) (hcs:OY i v.cells=true:=by kernel_rfl):o.wp P ⟨t,dd⟩ w K Q:=by
  refine Sx (v:=v.den e) i hk hm hd hlt hok hcs (SA.den_cells e v) ?_ hK
  unfold execOp
  simp only [hop,Instr.box,Sem.run_bind,Ap hk hx,Result.andThen_ok,Iw,Sem.run_pure]
end
open Go Go.RowKit
theorem Ai.pickRows {F:Fr} {h:Ac} {e:AJ} {pl:List C0} {rw:List Ca} {w:World} (hm:Ai F h e pl rw w) (js:List Nat) (hj:Fk js=true) (hl:JX rw js=true):Ai F h e pl (pick rw js Ss) w:=by
  obtain⟨ow,m⟩:=hm
  have hn:=Dk hj
  refine⟨fun b=>match ow b with | some (.inr j)=>(js.idxOf? j).map .inr | x=>x,m.below,m.le,m.old,m.has,fun b x hx=>?_,fun b o x i hh hx=>?_,fun i p hp=>?_,fun k r hk=>?_,fun b x hx=>?_⟩
  · cases hb:ow b with
    | none=>simp [hb] at hx
    | some y=>exact m.ows b y hb
  · cases hb:ow b with
    | none=>simp [hb] at hx
    | some y =>
      cases y with
      | inl q=>simp [hb] at hx; subst hx; exact m.hown b o x q hh hb
      | inr q=>simp [hb] at hx
  · have:=m.pls i p hp
    unfold Cq at this ⊢
    split at this
    · obtain⟨q1,q2⟩:=this
      exact⟨by simp only [q1],q2⟩
    exact this
  · unfold pick at hk
    rw [List.getElem?_map] at hk
    obtain⟨j,hj1,rfl⟩:=Option.map_eq_some_iff.1 hk
    have hlt:j<rw.length:=by
      have:=List.all_eq_true.1 hl j (List.mem_of_getElem? hj1)
      simpa using this
    have hr:rw[j]? = some (rw.getD j Ss):=by rw [List.getD_eq_getElem?_getD,List.getElem?_eq_getElem hlt]; rfl
    have:=m.rws j _ hr
    refine⟨this.own,this.frz,fun ad ha=>?_,this.one⟩
    obtain⟨h1,h2,h3⟩:=this.blk ad ha
    refine⟨?_,h2,h3⟩
    simp only [h1]
    rw [HT hn hj1]
    rfl
  obtain⟨h1,h2,h3,h4,h5⟩:=m.ext b x hx
  exact⟨h1,h2,h3,by simp only [h4],h5⟩
structure Fl where
  i:Nat
  d:Nat
  E:TypeId
  sz:Nat
  len:Nat
  cs:List SC
def Fl.row (f:Fl) (e:AJ) (a:Option Addr):Ca:=⟨a,f.len,f.len,f.E,f.sz,f.cs.map (SC.den e),0⟩
def Fl.nil (f:Fl):Ca:=⟨none,0,0,f.E,f.sz,[],0⟩
def Fl.ent (f:Fl) (a:Option Addr):Nat×SV:=(f.d,.one (.c (.slice a f.len f.len)))
def XH (e:AJ) (f:Fl) (b:Bool) (a:Option Addr):Ca:=bif b then f.row e a else f.nil
def FI:List Fl→List Bool→List (Option Addr)→TM
  | f::fs,b::S,a::as=>(bif b then [f.ent a] else [])++FI fs S as
  | _,_,_=>[]
def VL (e:AJ):List Fl→List Bool→List (Option Addr)→List Ca
  | f::fs,b::S,a::as=>XH e f b a::VL e fs S as
  | _,_,_=>[]
def VM:List Fl→List Bool→List Nat
  | f::fs,b::S=>(bif b then [f.i] else [])++VM fs S
  | _,_=>[]
def M1 {α:Type}:List Bool→List α→List α
  | b::bs,x::xs=>bif b then x::M1 bs xs else M1 bs xs
  | _,_=>[]
def UO:List Bool→List Bool→Bool
  | q::qs,b::bs=>(!q || b) && UO qs bs
  | _,_=>true
def Rf (m:TM) (fls:List Fl):Bool:=m.all fun p=>fls.all fun f=>!(Nat.beq f.d p.1)
theorem Oi:∀ {fls:List Fl} {S:List Bool} {as:List (Option Addr)} {k:Nat} {v:SV},(FI fls S as).get k=some v→∃ f∈fls,f.d=k
  | [],_,_,k,v,h=>by simp [FI,TM.get] at h
  | f::fs,[],_,k,v,h=>by simp [FI,TM.get] at h
  | f::fs,b::S,[],k,v,h=>by simp [FI,TM.get] at h
  | f::fs,b::S,a::as,k,v,h=>by
    unfold FI at h
    cases b with
    | false =>
      obtain⟨g,hg,e⟩:=Oi (show(FI fs S as).get k=some v from h)
      exact⟨g,List.mem_cons_of_mem _ hg,e⟩
    | true =>
      have h:TM.get (f.ent a::FI fs S as) k=some v:=h
      unfold Fl.ent TM.get at h
      cases hb:Nat.beq f.d k with
      | true=>exact⟨f,by simp,Nat.eq_of_beq_eq_true hb⟩
      | false =>
        rw [hb] at h
        obtain⟨g,hg,e⟩:=Oi (show(FI fs S as).get k=some v from h)
        exact⟨g,List.mem_cons_of_mem _ hg,e⟩
theorem Dx:∀ (m m':TM)(k:Nat),TM.get (m++m') k=match TM.get m k with | some v=>some v | none=>TM.get m' k
  | [],m',k=>by simp [TM.get]
  | (j,u)::m,m',k=>by
    rw [List.cons_append,TM.get,TM.get]
    cases Nat.beq j k with
    | true=>rfl
    | false=>exact Dx m m' k
theorem HW {m:TM} {fls:List Fl} (h:Rf m fls=true) {f:Fl} (hf:f∈fls):TM.get m f.d=none:=by
  unfold Rf at h
  rw [List.all_eq_true] at h
  induction m with
  | nil=>rfl
  | cons p m ih =>
    obtain⟨j,u⟩:=p
    have h1:=h (j,u) (by simp)
    rw [List.all_eq_true] at h1
    have h2:=h1 f hf
    rw [TM.get]
    have:Nat.beq j f.d=false:=by
      cases hb:Nat.beq j f.d with
      | false=>rfl
      | true =>
        have e:=Nat.eq_of_beq_eq_true hb
        simp [e] at h2
    rw [this]
    exact ih fun p hp=>h p (List.mem_cons_of_mem _ hp)
theorem UP {m m':TM} {x:Operand} {v:SV} (h:ev m x=some v):ev (m++m') x=some v:=by
  unfold ev at h ⊢
  split at h
  · rename_i k
    rw [Dx,h]
  all_goals exact h
theorem Tu {m m':TM} {x:Operand} {v:SA} (h:DR m x=some v):DR (m++m') x=some v:=by
  unfold DR at h ⊢
  split at h
  · rename_i u hu
    rw [UP hu]
    exact h
  cases h
theorem Jz {m m':TM}:∀ {l:List (Nat×Operand)} {vs:List (Nat×SA)},Gf m l=some vs→Gf (m++m') l=some vs
  | [],_,h=>h
  | (i,x)::r,vs,h=>by
    unfold Gf at h ⊢
    split at h
    · rename_i v vs' h1 h2
      rw [Tu h1,Jz h2]
      exact h
    cases h
theorem PI {P:Program} {m m':TM} {T:TypeId} {len:Nat} {parts:List (Nat×Operand)} {cs:List SC} (h:Iy P m T len parts=some cs):Iy P (m++m') T len parts=some cs:=by
  unfold Iy at h ⊢
  cases he:Gf m parts with
  | none =>
    rw [he] at h
    exfalso
    split at h
    · split at h
      · contradiction
      cases h
    cases h
  | some vs =>
    rw [Jz he]
    rw [he] at h
    exact h
section
variable {P:Program} {ops:Array Oper} {X:List Nat} {Q:Exit→Act→World→Prop} {N:Nat} {F:Fr} {e:AJ} {pl:List C0} {dl:List Deferred}
def X8 (P:Program) (ops:Array Oper) (N:Nat) (m:TM) (f:Fl):Prop:=∃ o T parts,ops[f.i]? = some o∧o.op=.buildSlice T f.len parts∧o.dst=some f.d∧o.guard=none∧Nat.blt f.d N=true∧P.underlying T=some (.slice f.E)∧FW P f.E=some f.sz∧f.cs.length=f.len*f.sz∧decide (f.len≤1000000000)=true∧Iy P m T f.len parts.toList=some f.cs
def Sy (P:Program) (ops:Array Oper) (N:Nat) (m:TM):List Fl→Prop
  | []=>True
  | f::fs=>X8 P ops N m f∧Sy P ops N m fs
theorem Sy.mem {m:TM}:∀ {fls:List Fl},Sy P ops N m fls→∀ f∈fls,X8 P ops N m f
  | g::fs,h,f,hf=>by
    rcases List.mem_cons.1 hf with rfl | hf
    · exact h.1
    exact Sy.mem h.2 f hf
def Qm:Nat→List (List Bool)
  | 0=>[[]]
  | n+1=>(Qm n).map (true::·)++(Qm n).map (false::·)
theorem MP:∀ (S:List Bool),S∈Qm S.length
  | []=>by simp [Qm]
  | b::S=>by
    have:=MP S
    rw [List.length_cons,Qm,List.mem_append,List.mem_map,List.mem_map]
    cases b with
    | true=>exact .inl ⟨S,this,rfl⟩
    | false=>exact .inr ⟨S,this,rfl⟩
def Tv (ops:Array Oper) (done0:List Nat) (fls:List Fl) (ms:List (Nat×List Bool)) (S:List Bool):Bool :=
  let dn:=VM fls S++done0
  let rd:=Region.ready .any ops (AY ops.size dn)
  !rd.isEmpty && decide (dn.length<ops.size) && rd.all (fun j=>(ms.any fun q=>Nat.beq j q.1 && UO q.2 S) || (List.range fls.length).any fun l=>match fls[l]?,S[l]? with | some f,some b=>Nat.beq f.i j && !b | _,_=>false) &&
  (List.range fls.length).all fun l=>match fls[l]?,S[l]? with | some f,some false=>decide (AY ops.size (f.i::dn)=AY ops.size (VM fls (S.set l true)++done0)) && Nat.beq (dn.length+1) (VM fls (S.set l true)++done0).length | _,_=>true
def X9 (ops:Array Oper) (done0:List Nat) (fls:List Fl) (ms:List (Nat×List Bool)):Bool:=(Qm fls.length).all fun S=>Tv ops done0 fls ms S
def XA (K:Nat→List Bool→Prop):List (Nat×List Bool)→Prop
  | []=>True
  | q::ms=>K q.1 q.2∧XA K ms
theorem XA.mem {K:Nat→List Bool→Prop}:∀ {ms:List (Nat×List Bool)},XA K ms→∀ q∈ms,K q.1 q.2
  | p::ms,h,q,hq=>by
    rcases List.mem_cons.1 hq with rfl | hq
    · exact h.1
    exact XA.mem h.2 q hq
theorem TX (e:AJ):∀ (fls:List Fl)(S:List Bool)(as:List (Option Addr))(l:Nat)(f:Fl)(a:Option Addr),fls[l]? = some f→S.length=fls.length→as.length=fls.length→(VL e fls S as).set l (f.row e a)=VL e fls (S.set l true) (as.set l a)
  | [],_,_,l,f,a,h,_,_=>by simp at h
  | g::fs,[],_,l,f,a,_,h,_=>by simp at h
  | g::fs,b::S,[],l,f,a,_,_,h=>by simp at h
  | g::fs,b::S,x::as,0,f,a,h,_,_=>by
    simp at h; subst h
    rfl
  | g::fs,b::S,x::as,l+1,f,a,h,h1,h2=>by
    show XH e g b x::(VL e fs S as).set l (f.row e a)=XH e g b x::VL e fs (S.set l true) (as.set l a)
    rw [TX e fs S as l f a (by simpa using h) (by simpa using h1) (by simpa using h2)]
theorem TY (e:AJ):∀ (fls:List Fl)(S:List Bool)(as:List (Option Addr))(l:Nat)(f:Fl),fls[l]? = some f→S[l]? = some false→as.length=fls.length→(VL e fls S as)[l]? = some f.nil
  | [],_,_,l,f,h,_,_=>by simp at h
  | g::fs,[],_,l,f,_,h,_=>by simp at h
  | g::fs,b::S,[],l,f,_,_,h=>by simp at h
  | g::fs,b::S,x::as,0,f,h,h1,_=>by
    simp at h h1; subst h; subst h1
    rfl
  | g::fs,b::S,x::as,l+1,f,h,h1,h2=>TY e fs S as l f (by simpa using h) (by simpa using h1) (by simpa using h2)
theorem TZ:∀ (fls:List Fl)(S:List Bool)(as:List (Option Addr))(l:Nat)(f:Fl)(a:Option Addr),fls[l]? = some f→S.length=fls.length→as.length=fls.length→(fls.map Fl.d).Nodup→∀ k v,TM.get (FI fls (S.set l true) (as.set l a)) k=some v→TM.get (f.ent a::FI fls S as) k=some v
  | [],_,_,l,f,a,h,_,_,_,_,_,_=>by simp at h
  | g::fs,[],_,l,f,a,_,h,_,_,_,_,_=>by simp at h
  | g::fs,b::S,[],l,f,a,_,_,h,_,_,_,_=>by simp at h
  | g::fs,b::S,x::as,0,f,a,h,_,_,hn,k,v,hk=>by
    simp at h; subst h
    replace hk:TM.get (g.ent a::FI fs S as) k=some v:=hk
    show TM.get (g.ent a::((bif b then [g.ent x] else [])++FI fs S as)) k=some v
    unfold Fl.ent at hk ⊢
    rw [TM.get] at hk ⊢
    cases hb:Nat.beq g.d k with
    | true=>rw [hb] at hk; exact hk
    | false =>
      rw [hb] at hk
      simp only [cond_false] at hk ⊢
      cases b with
      | false=>exact hk
      | true =>
        show TM.get ((g.d,_)::FI fs S as) k=some v
        rw [TM.get,hb]
        exact hk
  | g::fs,b::S,x::as,l+1,f,a,h,h1,h2,hn,k,v,hk=>by
    rw [List.map_cons,List.nodup_cons] at hn
    have IH:=TZ fs S as l f a (by simpa using h) (by simpa using h1) (by simpa using h2) hn.2 k v
    replace hk:TM.get ((bif b then [g.ent x] else [])++FI fs (S.set l true) (as.set l a)) k=some v:=hk
    show TM.get (f.ent a::((bif b then [g.ent x] else [])++FI fs S as)) k=some v
    have hfg:Nat.beq f.d g.d=false:=by
      cases hb:Nat.beq f.d g.d with
      | false=>rfl
      | true =>
        exfalso
        apply hn.1
        rw [← Nat.eq_of_beq_eq_true hb]
        exact List.mem_map_of_mem (List.mem_of_getElem? (show fs[l]? = some f by simpa using h))
    cases b with
    | false=>exact IH hk
    | true =>
      replace hk:TM.get (g.ent x::FI fs (S.set l true) (as.set l a)) k=some v:=hk
      show TM.get (f.ent a::g.ent x::FI fs S as) k=some v
      unfold Fl.ent at hk IH ⊢
      rw [TM.get] at hk ⊢
      cases hb:Nat.beq g.d k with
      | true =>
        rw [hb] at hk
        have:g.d=k:=Nat.eq_of_beq_eq_true hb
        subst this
        rw [hfg]
        simp only [cond_false]
        rw [TM.get,hb]
        exact hk
      | false =>
        rw [hb] at hk
        have:=IH hk
        rw [TM.get] at this
        cases hb2:Nat.beq f.d k with
        | true=>rw [hb2] at this; exact this
        | false =>
          rw [hb2] at this
          simp only [cond_false] at this ⊢
          rw [TM.get,hb]
          exact this
def Ua (N:Nat) (F:Fr) (e:AJ) (pl:List C0) (dl:List Deferred) (fls:List Fl) (M:TM→Ac→List Ca→Prop) (S:List Bool) (a:Act) (w:World):Prop :=
  ∃ as t h mm rwM,S.length=fls.length∧as.length=fls.length∧a=⟨t,dl⟩∧M mm h rwM∧Kn N e (mm++FI fls S as) t∧Ai F h e pl (rwM++VL e fls S as) w
theorem Ub {pl':List C0} {done0:List Nat} {fls:List Fl} {M:TM→Ac→List Ca→Prop} (ms:List (Nat×List Bool)) (hst:∀ mm h rwM,M mm h rwM→Sy P ops N mm fls∧Rf mm fls=true) (hpl:∀ h rw w,Ai F h e pl rw w→Ay e pl' w) (hnd:Fk (fls.map Fl.d)=true) (chk:X9 ops done0 fls ms=true)
    (hM:XA (fun i rq=>∀ S as t h mm rwM w,S.length=fls.length→as.length=fls.length→UO rq S=true→M mm h rwM→Kn N e (mm++FI fls S as) t→Ai F h e pl (rwM++VL e fls S as) w →
      ∃ oi,ops[i]? = some oi∧Region.wanted oi (yielded ops t)=true∧∀ K:Act→World→Prop,(∀ a' w',Ay e pl' w'→FK P ops X Q e pl' (i::(VM fls S++done0)) a' w'→K a' w')→oi.wp P ⟨t,dl⟩ w K Q) ms) :
    ∀ (c:Nat)(S:List Bool)(a:Act)(w:World),S.count false=c→Ua N F e pl dl fls M S a w→FK P ops X Q e pl' (VM fls S++done0) a w:=by
  intro c
  induction c with
  | zero =>
    rintro S a w hc ⟨as,t,h,mm,rwM,hS,ha,rfl,hMM,hk,hm⟩
    have hchk:=List.all_eq_true.1 chk S (by rw [← hS]; exact MP S)
    unfold Tv at hchk
    simp only [Bool.and_eq_true,decide_eq_true_eq] at hchk
    obtain⟨⟨⟨q1,q2⟩,q3⟩,_⟩:=hchk
    refine QW _ rfl (by simpa using q1) q2 fun j hj=>?_
    have hj2:=List.all_eq_true.1 q3 j hj
    rw [Bool.or_eq_true,List.any_eq_true,List.any_eq_true] at hj2
    rcases hj2 with⟨q,hq,e12⟩ | ⟨l,hl,h2⟩
    · rw [Bool.and_eq_true] at e12
      obtain rfl:=Nat.eq_of_beq_eq_true e12.1
      exact hM.mem q hq S as t h mm rwM w hS ha e12.2 hMM hk hm
    exfalso
    split at h2
    · rename_i f b hf hb
      have:b=true:=by
        cases b with
        | true=>rfl
        | false =>
          have:=List.count_pos_iff.2 (List.mem_of_getElem? hb)
          omega
      subst this
      simp at h2
    cases h2
  | succ c ih =>
    rintro S a w hc ⟨as,t,h,mm,rwM,hS,ha,rfl,hMM,hk,hm⟩
    have hchk:=List.all_eq_true.1 chk S (by rw [← hS]; exact MP S)
    unfold Tv at hchk
    simp only [Bool.and_eq_true,decide_eq_true_eq] at hchk
    obtain⟨⟨⟨q1,q2⟩,q3⟩,q4⟩:=hchk
    refine QW _ rfl (by simpa using q1) q2 fun j hj=>?_
    have hj2:=List.all_eq_true.1 q3 j hj
    rw [Bool.or_eq_true,List.any_eq_true,List.any_eq_true] at hj2
    rcases hj2 with⟨q,hq,e12⟩ | ⟨l,hl,h2⟩
    · rw [Bool.and_eq_true] at e12
      obtain rfl:=Nat.eq_of_beq_eq_true e12.1
      exact hM.mem q hq S as t h mm rwM w hS ha e12.2 hMM hk hm
    have h4:=List.all_eq_true.1 q4 l hl
    split at h2
    · rename_i f b hf hb
      rw [Bool.and_eq_true] at h2
      obtain rfl:=Nat.eq_of_beq_eq_true h2.1
      have hb':b=false:=by simpa using h2.2
      subst hb'
      rw [hf,hb] at h4
      simp only [Bool.and_eq_true,decide_eq_true_eq] at h4
      obtain⟨hok,hfree⟩:=hst mm h rwM hMM
      have hfm:f∈fls:=List.mem_of_getElem? hf
      obtain⟨o,T,parts,c1,c2,c3,c4,c5,c6,c7,c8,c9,c10⟩:=hok.mem f hfm
      refine⟨o,c1,by unfold Region.wanted; rw [c4],fun K hK=>?_⟩
      have hln:(VL e fls S as)[l]? = some f.nil:=TY e fls S as l f hf hb ha
      have hll:rwM.length+l<(rwM++VL e fls S as).length:=by
        rcases Nat.lt_or_ge l (VL e fls S as).length with h' | h'
        · rw [List.length_append]; omega
        rw [List.getElem?_eq_none h'] at hln; cases hln
      refine AC (rwM.length+l) (r:=f.nil) (by rw [List.getElem?_append_right (by omega),show rwM.length+l-rwM.length=l by omega]; exact hln) rfl f.E f.sz f.cs hk hm c2 c3 (Nat.le_of_ble_eq_true c5) (PI c10) c6 c7 c8 c9 fun a' t' w' hk' hm'=>?_
      refine hK _ _ (hpl _ _ _ hm') ?_
      have hIH:=ih (S.set l true) ⟨t',dl⟩ w' (by
        have hlt:l<S.length:=by
          rcases Nat.lt_or_ge l S.length with h' | h'
          · exact h'
          rw [List.getElem?_eq_none h'] at hb; cases hb
        rw [List.count_set hlt]
        have:S[l]=false:=by rw [List.getElem?_eq_getElem hlt] at hb; simpa using hb
        simp [this]; omega) ⟨as.set l a',t',h,mm,rwM,by rw [List.length_set]; exact hS,by rw [List.length_set]; exact ha,rfl,hMM,?_,?_⟩
      · exact AK _ h4.1 (by simpa using Nat.eq_of_beq_eq_true h4.2) hIH
      · refine hk'.sub fun k v hv=>?_
        have hv2:=hv
        rw [Dx] at hv
        show TM.get ((f.d,_)::(mm++FI fls S as)) k=some v
        rw [TM.get]
        cases hmk:TM.get mm k with
        | some u =>
          rw [hmk] at hv
          have hne:Nat.beq f.d k=false:=by
            cases hb3:Nat.beq f.d k with
            | false=>rfl
            | true =>
              have:=Nat.eq_of_beq_eq_true hb3
              rw [← this,HW hfree hfm] at hmk
              cases hmk
          rw [hne,cond_false,Dx,hmk]
          exact hv
        | none =>
          rw [hmk] at hv
          have:=TZ fls S as l f a' hf hS ha (Dk hnd) k v hv
          unfold Fl.ent at this
          rw [TM.get] at this
          cases hb3:Nat.beq f.d k with
          | true=>rw [hb3] at this; exact this
          | false =>
            rw [hb3] at this
            simp only [cond_false] at this ⊢
            rw [Dx,hmk]
            exact this
      have:=hm'
      rw [List.set_append_right _ _ (by omega),show rwM.length+l-rwM.length=l by omega] at this
      have e2:=TX e fls S as l f a' hf hS ha
      unfold Fl.row at e2
      rw [e2] at this
      exact this
    cases h2
theorem Qn {pl':List C0} {done0:List Nat} {fls:List Fl} {M:TM→Ac→List Ca→Prop} (H:∀ (c:Nat)(S:List Bool)(a:Act)(w:World),S.count false=c→Ua N F e pl dl fls M S a w→FK P ops X Q e pl' (VM fls S++done0) a w) (S:List Bool) (a:Act) (w:World) (h:Ua N F e pl dl fls M S a w):FK P ops X Q e pl' (VM fls S++done0) a w:=H _ S a w rfl h
theorem Pa {f:Fl} {fs:List Fl} {b:Bool} {S:List Bool} {a:Option Addr} {as:List (Option Addr)} {k:Nat} {v:SV} (hn:∀ g∈fs,g.d≠f.d) (h:TM.get (FI fs S as) k=some v):TM.get (FI (f::fs) (b::S) (a::as)) k=some v:=by
  cases b with
  | false=>exact h
  | true =>
    show TM.get (f.ent a::FI fs S as) k=some v
    unfold Fl.ent
    rw [TM.get]
    cases hb:Nat.beq f.d k with
    | false=>exact h
    | true =>
      obtain⟨g,hg,e⟩:=Oi h
      exact absurd (e.trans (Nat.eq_of_beq_eq_true hb).symm) (hn g hg)
theorem Pb:∀ {fls:List Fl} {rq S:List Bool} {as:List (Option Addr)} {k:Nat} {v:SV},(fls.map Fl.d).Nodup→UO rq S=true→rq.length=S.length→TM.get (FI fls rq as) k=some v→TM.get (FI fls S as) k=some v
  | [],rq,S,as,k,v,_,_,_,h=>by simp [FI,TM.get] at h
  | f::fs,[],S,as,k,v,_,_,_,h=>by simp [FI,TM.get] at h
  | f::fs,q::rq,[],as,k,v,_,_,hl,h=>by simp at hl
  | f::fs,q::rq,b::S,[],k,v,_,_,_,h=>by simp [FI,TM.get] at h
  | f::fs,q::rq,b::S,a::as,k,v,hn,hr,hl,h=>by
    rw [List.map_cons,List.nodup_cons] at hn
    have hr2:((!q || b) && UO rq S)=true:=hr
    rw [Bool.and_eq_true] at hr2
    have hno:∀ g∈fs,g.d≠f.d:=fun g hg e=>hn.1 (by rw [← e]; exact List.mem_map_of_mem hg)
    cases q with
    | false=>exact Pa hno (Pb hn.2 hr2.2 (by simpa using hl) (show TM.get (FI fs rq as) k=some v from h))
    | true =>
      have hb:b=true:=by simpa using hr2.1
      subst hb
      replace h:TM.get (f.ent a::FI fs rq as) k=some v:=h
      show TM.get (f.ent a::FI fs S as) k=some v
      unfold Fl.ent at h ⊢
      rw [TM.get] at h ⊢
      cases hb:Nat.beq f.d k with
      | true=>rw [hb] at h; exact h
      | false =>
        rw [hb] at h
        exact Pb hn.2 hr2.2 (by simpa using hl) h
theorem Oj:∀ {fls:List Fl} {kp S:List Bool} {as:List (Option Addr)} {k:Nat} {v:SV},(fls.map Fl.d).Nodup→TM.get (FI (M1 kp fls) (M1 kp S) (M1 kp as)) k=some v→TM.get (FI fls S as) k=some v
  | [],kp,S,as,k,v,_,h=>by cases kp <;> simp [M1,FI,TM.get] at h
  | f::fs,[],S,as,k,v,_,h=>by simp [M1,FI,TM.get] at h
  | f::fs,q::kp,[],as,k,v,_,h=>by cases q <;> simp [M1,FI,TM.get] at h <;> (cases M1 kp fs <;> simp [FI,TM.get] at h)
  | f::fs,q::kp,b::S,[],k,v,_,h=>by cases q <;> simp [M1] at h <;> (first | (cases M1 kp fs <;> cases M1 kp S <;> simp [FI,TM.get] at h) | simp [FI,TM.get] at h)
  | f::fs,q::kp,b::S,a::as,k,v,hn,h=>by
    rw [List.map_cons,List.nodup_cons] at hn
    have hno:∀ g∈fs,g.d≠f.d:=fun g hg e=>hn.1 (by rw [← e]; exact List.mem_map_of_mem hg)
    cases q with
    | false=>exact Pa hno (Oj hn.2 (show TM.get (FI (M1 kp fs) (M1 kp S) (M1 kp as)) k=some v from h))
    | true =>
      replace h:TM.get (FI (f::M1 kp fs) (b::M1 kp S) (a::M1 kp as)) k=some v:=h
      cases b with
      | false=>exact Pa hno (Oj hn.2 (show TM.get (FI (M1 kp fs) (M1 kp S) (M1 kp as)) k=some v from h))
      | true =>
        replace h:TM.get (f.ent a::FI (M1 kp fs) (M1 kp S) (M1 kp as)) k=some v:=h
        show TM.get (f.ent a::FI fs S as) k=some v
        unfold Fl.ent at h ⊢
        rw [TM.get] at h ⊢
        cases hb:Nat.beq f.d k with
        | true=>rw [hb] at h; exact h
        | false =>
          rw [hb] at h
          exact Oj hn.2 h
theorem Kn.req {t:Array Value} {L:TM} {fls:List Fl} {S:List Bool} {as:List (Option Addr)} (hk:Kn N e (L++FI fls S as) t) (rq:List Bool) (hn:Fk (fls.map Fl.d)=true) (hr:UO rq S=true) (hl:rq.length=S.length):Kn N e (L++(FI fls rq as++FI fls S as)) t :=
  hk.sub fun k v h=>by
    rw [Dx,Dx] at h
    rw [Dx]
    cases hL:TM.get L k with
    | some u=>rw [hL] at h; exact h
    | none =>
      rw [hL] at h
      simp only [] at h ⊢
      cases hq:TM.get (FI fls rq as) k with
      | some u=>rw [hq] at h; rw [Pb (Dk hn) hr hl hq]; exact h
      | none=>rw [hq] at h; exact h
theorem Kn.next {t:Array Value} {L:TM} {fls:List Fl} {S:List Bool} {as:List (Option Addr)} (hk:Kn N e (L++FI fls S as) t) (kp:List Bool) (mm:TM) (hn:Fk (fls.map Fl.d)=true) (h1:FV L (mm.map Prod.fst)=mm) (h2:Rf L (M1 kp fls)=true):Kn N e (mm++FI (M1 kp fls) (M1 kp S) (M1 kp as)) t :=
  hk.sub fun k v h=>by
    rw [Dx] at h
    rw [Dx]
    cases hm:TM.get mm k with
    | some u =>
      rw [hm] at h
      have:=Fh L (mm.map Prod.fst) k u (by rw [h1]; exact hm)
      rw [this]
      exact h
    | none =>
      rw [hm] at h
      simp only [] at h
      obtain⟨g,hg,rfl⟩:=Oi h
      rw [HW h2 hg]
      exact Oj (Dk hn) h
def XQ (N:Nat) (F:Fr) (e:AJ) (pl pl':List C0) (dl:List Deferred) (fls:List Fl) (done0:List Nat) (M:TM→Ac→List Ca→Prop) (W:AJ→List C0→List Nat→Act→World→Prop):Prop:=∀ (S:List Bool)(a:Act)(w:World),Ua N F e pl dl fls M S a w→W e pl' (VM fls S++done0) a w
theorem Xw {w:World} {d:List Deferred} {m:TM} {t:Array Value} {done:List Nat} (is done':List Nat) (m':TM) (hQ:QP Q) (hk:Kn N e m t) (hp:Ay e pl w)
    (hs:Region.noSelect ops=true) (hd:is.reverseAux done=done') (h:Sf P ops X N pl is done m=some m') (H:∀ t',Kn N e m' t'→FK P ops X Q e pl done' ⟨t',d⟩ w):FK P ops X Q e pl done ⟨t,d⟩ w:=by
  subst hd
  unfold Sf at h
  split at h
  · rename_i hsh
    exact OL hs hQ hp is done m m' t (Jm hsh) hk h H
  cases h
theorem XB {α:Type}:∀ {l:List α},l.length=1→∃ a,l=[a]
  | [a],_=>⟨a,rfl⟩
theorem XC {α:Type}:∀ {l:List α},l.length=2→∃ a b,l=[a,b]
  | [a,b],_=>⟨a,b,rfl⟩
end
end Go.Proofs.YtinminkmefljbaaGreat
