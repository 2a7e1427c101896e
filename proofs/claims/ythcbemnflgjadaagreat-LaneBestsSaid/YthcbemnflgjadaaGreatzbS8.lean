/- What a printed proof leans on: memory that is read, and steps through a region. -/
import Derived.Test.YthcbemnflgjadaaGreatProg
import Derived.Test.YthcbemnflgjadaaGreatzbS7
import Derived.Ground.Names8Prog
import Derived.Shelf.Abstract
import Derived.Shelf.Spec.SlicesGrow
set_option linter.all false
namespace Go.Proofs
open Go.Shelf
def Tryz.laysGrow_ren:Go.Shelf.Ren:=⟨fun | 4=>61 | n=>n,fun | 22=>22 | 25=>3 | 3=>3 | 4=>4 | 9=>9 | 20=>20 | 0=>0 | n=>n,fun | n=>n⟩
theorem Tryz.laysGrow:Go.Proofs.Lays8.n4 Tryz.prog Tryz.laysGrow_ren:={
  mixed:=by kernel_rfl
  f4:=⟨"slices.Grow[[]int,int]",by decide,Tryz.func61.trans (congrArg some (by kernel_rfl))⟩
  t0:=Tryz.underlying0
  a0:=Tryz.isAgg0
  z0:=Tryz.sizeOf0
  v0:=Tryz.zeroValue0
  t3:=Tryz.underlying3
  a3:=Tryz.isAgg3
  z3:=Tryz.sizeOf3
  v3:=Tryz.zeroValue3
  t4:=Tryz.underlying4
  a4:=Tryz.isAgg4
  z4:=Tryz.sizeOf4
  v4:=Tryz.zeroValue4
  t9:=Tryz.underlying9
  a9:=Tryz.isAgg9
  z9:=Tryz.sizeOf9
  v9:=Tryz.zeroValue9
  t20:=Tryz.underlying20
  a20:=Tryz.isAgg20
  z20:=Tryz.sizeOf20
  v20:=Tryz.zeroValue20
  t22:=Tryz.underlying22
  a22:=Tryz.isAgg22
  z22:=Tryz.sizeOf22
  v22:=Tryz.zeroValue22 }
end Go.Proofs
namespace Go.Proofs.YthcbemnflgjadaaGreat
open Go Go.RowKit
theorem Tryz.grows:UF Tryz.prog 61 3:=fun k w hk=>by
  rcases Nat.eq_zero_or_pos k with rfl | h0
  · refine(Any8.slices_Grow_room Tryz.laysGrow none 0 0 0 w (by omega) (by omega) (by omega) (by omega)).mono ?_
    rintro en w' ⟨rfl,rfl⟩
    exact .inl ⟨rfl,rfl⟩
  · obtain⟨ii,zv,e1,e2,e3,e4,e5,e6⟩:=FP (P:=Tryz.prog) (E:=3) (sz:=1) (bytes:=8) (by kernel_rfl)
    refine(Any8.slices_Grow_grow Tryz.laysGrow ii zv e1 e2 (by omega) none 0 0 k [] w (by omega) (by omega) (by rw [e4]; omega) (by omega) (by simp) (fun _=>rfl) (fun a ha=>by cases ha)).mono ?_
    rintro en w' ⟨rfl,rfl⟩
    refine .inr ⟨_,_,rfl,grownCap_le_maxLen w _ _ _ (by unfold maxLen; omega),?_,rfl⟩
    have hg:=grownCap_ge w (0+k) 0 (Tryz.laysGrow_ren.t 25)
    simp only [Array.size_append,size_zeroCells,e5]
    show([]:List Value).length+_*1+_*1=_
    simp only [List.length_nil]
    omega
end Go.Proofs.YthcbemnflgjadaaGreat
namespace Go.Proofs.YthcbemnflgjadaaGreat
open Go Go.RowKit
open Rep (rep)
open KRep (kv)
open VRep (rv)
theorem Bc {α:Type} {c:Bool} {a b:α} (h:c=true):(bif c then a else b)=a:=by rw [h]; rfl
theorem Bd {α:Type} {c:Bool} {a b:α} (h:c=false):(bif c then a else b)=b:=by rw [h]; rfl
theorem Cc.flat {KK α:Type} [KRep KK] [VRep α] {h h':Ac} {es:List MapEntry} {c:Nat} {l:List (KK×α)} (hf:∀ (h h':Ac)(x:α)(v:Value),rv h x v→rv h' x v) (H:Cc h es c l):Cc h' es c l :=
  ⟨H.all.imp fun _ _ ⟨h1,h2⟩=>⟨h1,hf _ _ _ _ h2⟩,H.born,H.lt,H.keys⟩
section
variable {P:Program} (w:World)
theorem M9 (base:Nat) (t ty:TypeId) (e:TypeId) (i:TypeInfo) (z:Value) (size bytes:Nat) (ht:P.underlying t=some (.slice e)) (hi:P.info? e=some i) (hz:i.zero=some z)
    (hsize:i.size=size) (hby:i.bytes=bytes) (hzs:z.cells.size=size) (hsz:0<size)
    (a0:Option Addr) (c0:Nat) (n:Nat) (xs:List Value) (hown:w.ownsRow base e size (.slice a0 n c0) n xs)
    (a:Option Addr) (m c:Nat) (news:List Value) (hl:news.length=m*size) (hnews:∀ j u,news[j]? = some u→∃ ad,a=some ad∧w.cell? (ad.add j)=some u) (h1:∀ u∈news,u.oneCell' = true)
    (h63:n+m≤maxLen) (hbytes:(n+m)*bytes≤140737488355328) (hbase:base≤w.heap.size) :
    ∃ a' c' w',(Builtin.append_ #[t,t] ty #[.slice a0 n c0,.slice a m c]).run P w=.ok (.slice a' (n+m) c') w'∧w'.ownsRow base e size (.slice a' (n+m) c') (n+m) (xs++news) ∧
      ((a' = a0∧c' = c0∧w.grownBy w' (a0.map (·.block)))∨(∃ g,a' = some ⟨g,0,none⟩∧w.heap.size≤g∧g<w'.heap.size∧w.grownBy w' none)):=by
  cases a with
  | none =>
    have hn:news=[]:=by
      cases news with
      | nil=>rfl
      | cons x r=>obtain⟨ad,h,_⟩:=hnews 0 x rfl; cases h
    subst hn
    have hm:m=0:=by
      rcases Nat.eq_zero_or_pos m with h | h
      · exact h
      · have:=Nat.mul_pos h hsz; simp at hl; omega
    subst hm
    have hroom:n≤c0:=by
      rcases hown.2 with⟨h,_⟩ | ⟨g,cap,cur,h,_,_,hnc,_⟩
      · simp at h; omega
      · simp at h; omega
    refine⟨a0,c0,w,?_,by simpa using hown,.inl ⟨rfl,rfl,⟨rfl,rfl,rfl,Nat.le_refl _,fun _ _ _=>rfl⟩⟩⟩
    cases a0 <;> simp [Builtin.append_,run_underlying ht,sizeOf,typeInfo,hi,Builtin.lenOf,hroom,Builtin.firstCells,storeCells]
  | some ad =>
    have hnews:∀ j u,news[j]? = some u→w.cell? (ad.add j)=some u:=fun j u hu=>by
      obtain⟨ad',h,h'⟩:=hnews j u hu; cases h; exact h'
    subst hsize
    subst hby
    have hsmall:n+m≤9223372036854775807:=by simp only [maxLen] at h63; omega
    have hlen:(xs++news).length=(n+m)*i.size:=by rw [List.length_append,hown.1,hl,Nat.add_mul]
    have grown:∀ (old:Nat),old<n+m →
        (w.drew.alloc (.cells (xs.toArray++news.toArray++Builtin.zeroCells z.cells (grownCap w (n+m) old e-(n+m))) e)).ownsRow base e i.size
          (.slice (some ⟨w.heap.size,0,none⟩) (n+m) (grownCap w (n+m) old e)) (n+m) (xs++news) ∧
        w.grownBy (w.drew.alloc (.cells (xs.toArray++news.toArray++Builtin.zeroCells z.cells (grownCap w (n+m) old e-(n+m))) e)) none:=by
      intro old ho
      have hge:=grownCap_ge w (n+m) old e
      have hcm:grownCap w (n+m) old e≤maxLen:=grownCap_le_maxLen w (n+m) old e h63
      refine⟨⟨hlen,.inr ⟨w.heap.size,_,_,rfl,hbase,heap_alloc_new w.drew _,hge,hcm,?_,?_⟩⟩,⟨rfl,rfl,rfl,by simp,fun k hk _=>Go.heap_alloc_old w.drew _ hk⟩⟩
      · simp only [Array.size_append,List.size_toArray,size_zeroCells,hzs,hown.1,hl,← Nat.add_mul]
        congr 1
        omega
      · simp only [Array.toList_append,List.append_assoc]
        rw [← List.append_assoc,← hlen]
        exact List.take_left
    rcases hown.2 with⟨hv,rfl⟩ | ⟨g,cap,cur,hv,hbg,hg,hnc,hcm,hcs,htake⟩
    · simp only [Value.slice.injEq] at hv
      obtain⟨rfl,_,rfl⟩:=hv
      have hx:xs=[]:=List.eq_nil_of_length_eq_zero (by simpa using hown.1)
      subst hx
      by_cases hm:m=0
      · subst hm
        have hn:news=[]:=List.eq_nil_of_length_eq_zero (by simpa using hl)
        subst hn
        refine⟨none,0,w,?_,World.ownsRow_nil w base e i.size,.inl ⟨rfl,rfl,⟨rfl,rfl,rfl,Nat.le_refl _,fun _ _ _=>rfl⟩⟩⟩
        simp [Builtin.append_,run_underlying ht,sizeOf,typeInfo,hi,Builtin.lenOf,Builtin.firstCells,loadCells,loadCellsFrom]
      · have hr:=run_append_nil (P:=P) w t ty e i z ht hi hz ad m c news hl hnews (by omega) (by omega) (by have hb:=hbytes; simp only [Nat.zero_add] at hb; omega)
        have hgr:=grown 0 (by omega)
        simp only [Nat.zero_add,List.nil_append,Array.empty_append] at hgr ⊢
        exact⟨_,_,_,hr,hgr.1,.inr ⟨_,rfl,Nat.le_refl _,by simp,hgr.2⟩⟩
    · simp only [Value.slice.injEq,true_and] at hv
      obtain⟨rfl,rfl⟩:=hv
      by_cases hroom:n+m≤c0
      · have hfit:n*i.size+news.length≤cur.size:=by rw [hl,hcs,← Nat.add_mul]; exact Nat.mul_le_mul_right _ hroom
        have hr:=run_append_room (P:=P) w t ty e i ht hi g n c0 cur hg ad m c news hl hnews h1 hroom hfit
        refine⟨_,_,_,hr,⟨hlen,.inr ⟨g,c0,_,rfl,hbg,setRow_heap w g cur _ e _ hg,hroom,hcm,?_,?_⟩⟩,.inl ⟨rfl,rfl,⟨rfl,rfl,rfl,by simp,fun k _ hk=>setRow_other w g k _ (fun e=>hk (by simp [e]))⟩⟩⟩
        · simp only [List.size_toArray,List.length_append,List.length_take,List.length_drop,Array.length_toList]
          omega
        · rw [htake,← hlen]
          exact List.take_left
      · have holds:∀ j u,xs[j]? = some u→w.cell? ((⟨g,0,none⟩:Addr).add j)=some u:=hown.cells (g:=g) rfl
        have hr:=run_append_grow (P:=P) w t ty e i z ht hi hz ⟨g,0,none⟩ n c0 xs hown.1 holds ad m c news hl hnews (by omega) (by omega) (growslice_fits (by omega) hbytes)
        have hgr:=grown c0 (by omega)
        exact⟨_,_,_,hr,hgr.1,.inr ⟨_,rfl,Nat.le_refl _,by simp,hgr.2⟩⟩
end
section
variable {P:Program} {Q:Exit→Act→World→Prop} {N:Nat} {F:Fr} {h:Ac} {e:AG} {pl:List Co} {rw:List BH} {w:World} {m:TM} {t:Array Value} {dd:List Deferred} {o:Oper} {d:Nat} {K:Act→World→Prop}
theorem J6 {α:Type} {l:List α} {i:Nat} {x:α} (h:l[i]? = some x):i<l.length:=(List.getElem?_eq_some_iff.1 h).1
theorem Hi {α:Type} {l:List α} {i j:Nat} {x y:α} (h:(l.set i x)[j]? = some y):(j=i∧y=x)∨(j≠i∧l[j]? = some y):=by
  by_cases hj:j=i
  · subst hj
    have hl:=J6 h
    rw [List.length_set] at hl
    rw [List.getElem?_set_self hl] at h
    exact .inl ⟨rfl,(Option.some.inj h).symm⟩
  · rw [List.getElem?_set_ne (Ne.symm hj)] at h
    exact .inr ⟨hj,h⟩
theorem Aj.noRow {i:Nat} (E:TypeId) (sz:Nat) (hm:Aj F h e pl rw w):Aj F h e pl (rw.set i ⟨none,0,0,E,sz,[],0⟩) w:=by
  obtain⟨ow,m⟩:=hm
  refine⟨ow,m.below,m.le,m.old,m.has,m.ows,m.hown,m.pls,fun j r hr=>?_,m.ext⟩
  rcases Hi hr with⟨_,rfl⟩ | ⟨_,hr⟩
  · exact⟨World.ownsRow_nil _ _ _ _,Nat.le_refl _,fun ad ha=>(by cases ha),fun v hv=>by simp at hv⟩
  · exact m.rws j r hr
theorem Aj.moveRow {i k:Nat} {r q:BH} (hm:Aj F h e pl rw w) (hi:rw[i]? = some r) (hk:rw[k]? = some q) (hq:q.a=none) (hne:i≠k):Aj F h e pl ((rw.set k r).set i q) w:=by
  obtain⟨ow,m⟩:=hm
  have nok:∀ b,ow b=some (.inr k)→∀ (j:Nat)(r':BH),rw[j]? = some r'→∀ ad:Addr,r'.a=some ad→ad.block≠b:=fun b hb j r' hr ad ha hbe=>by
    have:=((m.rws j r' hr).blk ad ha).1
    rw [hbe,hb] at this
    have hkj:k=j:=by simpa using this
    subst hkj
    rw [hk] at hr
    cases hr
    rw [hq] at ha
    cases ha
  refine⟨fun b=>match ow b with
    | some (.inr j)=>if j=i then some (.inr k) else if j=k then none else some (.inr j)
    | x=>x,m.below,m.le,m.old,m.has,fun b x hx=>?_,fun b o x p hv hx=>?_,fun p q' hp=>?_,fun j r' hr=>?_,fun b x hx=>?_⟩
  · split at hx
    · rename_i j hj
      exact m.ows b _ hj
    · exact m.ows b x hx
  · split at hx
    · split at hx
      · cases hx
      · split at hx <;> cases hx
    · exact m.hown b o x p hv hx
  · have:=m.pls p q' hp
    unfold BR at this ⊢
    split at this
    · obtain⟨h1,h2,h3,h4⟩:=this
      exact⟨by simp only [h1],h2,h3,h4⟩
    · exact this
  · rcases Hi hr with⟨rfl,rfl⟩ | ⟨hj,hr⟩
    · have:=m.rws k r' hk
      exact⟨this.own,this.frz,fun ad ha=>(by rw [hq] at ha; cases ha),this.one⟩
    · rcases Hi hr with⟨rfl,rfl⟩ | ⟨hj2,hr⟩
      · have:=m.rws i r' hi
        refine⟨this.own,this.frz,fun ad ha=>?_,this.one⟩
        obtain⟨h1,h2⟩:=this.blk ad ha
        exact⟨by simp only [h1,if_true],h2⟩
      · have:=m.rws j r' hr
        refine⟨this.own,this.frz,fun ad ha=>?_,this.one⟩
        obtain⟨h1,h2⟩:=this.blk ad ha
        exact⟨by simp only [h1,hj,hj2,if_false],h2⟩
  · obtain⟨h1,h2,h3,h4,h5⟩:=m.ext b x hx
    exact⟨h1,h2,h3,by simp only [h4],h5⟩
def Vt (r r' k:BH):Prop:=(r'.a=r.a∧r'.c=r.c∧r.n≤r'.n∧r.xs.length=r.n*r.sz∧r'.E=r.E∧r'.sz=r.sz∧k.a=none)∨k=r
theorem RV {T:TypeId} {s x:Operand} {r:BH} (i:Nat) (bytes k c2:Nat) (n':Nat) (a2:Option Addr) (news:List Value) (hk:Kn N e m t) (hm:Aj F h e pl rw w) (hop:o.op=.call ⟨.builtin .append,#[s,x],#[T,T]⟩) (hd:o.dst=some d) (hlt:d<N)
    (hi:rw[i]? = some r) (hf:r.frz=0) (hT:P.underlying T=some (.slice r.E)) (hE:KS P r.E r.sz bytes=true) (hs:EG m s=some (.c (.slice r.a r.n r.c))) (hx:EG m x=some (.c (.slice a2 k c2)))
    (hl:news.length=k*r.sz) (hnews:∀ j u,news[j]? = some u→∃ ad,a2=some ad∧ad.spot=none∧w.cell? ⟨ad.block,ad.off+j,none⟩=some u) (h1:∀ u∈news,u.oneCell' = true)
    (hn':r.n+k=n') (hb:n'≤1000000000) (hby:decide (bytes≤10000)=true)
    (hK:∀ a' c' (q:BH) t' w',Vt r ⟨a',n',c',r.E,r.sz,r.xs++news,0⟩ q→Kn N e (m.put d (.one (.c (.slice a' n' c')))) t'→Aj F h e pl (rw.set i ⟨a',n',c',r.E,r.sz,r.xs++news,0⟩++[q]) w'→K ⟨t',dd⟩ w'):o.wp P ⟨t,dd⟩ w K Q:=by
  subst hn'
  obtain⟨ii,z,e1,e2,e3,e4,e5,e6⟩:=FP hE
  have hby:bytes≤10000:=by simpa using hby
  have hown:=hm.row hi
  have hmul:(r.n+k)*bytes≤1000000000*10000:=Nat.mul_le_mul hb hby
  obtain⟨a',c',w',hr,hown',hc⟩:=M9 (P:=P) w F.w.heap.size T o.type r.E ii z r.sz bytes hT e1 e2 e3 e4 e5 e6 r.a r.c r.n r.xs hown a2 k c2 news hl
    (fun j u hu=>by obtain⟨ad,q1,q2,q3⟩:=hnews j u hu; exact⟨ad,q1,by rw [PE ad j q2]; exact q3⟩) h1 (by unfold maxLen; omega) (by omega) hm.size
  unfold Oper.wp execOp
  have hse:=As (d:=dd) hk hs
  have hxe:=As (d:=dd) hk hx
  simp only [SA.den,SC.den] at hse hxe
  simp only [hop,resolve,invoke,builtin,Sem.run_bind,Sem.run_pure,Result.andThen_ok,List.map_toArray,List.map_cons,List.map_nil,hse,hxe,hr]
  show K _ _
  rw [Dx t dd hd]
  have hkn:Kn N e (m.put d (.one (.c (.slice a' (r.n+k) c')))) (t.setIfInBounds d (.slice a' (r.n+k) c')):=hk.put hlt (.one (.c (.slice a' (r.n+k) c')))
  have hone:∀ v∈r.xs++news,He v=false:=fun v hv=>(List.mem_append.1 hv).elim (fun hv=>by obtain⟨_,mm⟩:=hm; exact(mm.rws i r hi).one v hv) (fun hv=>FO (h1 v hv))
  have hlt':=J6 hi
  rcases hc with⟨ha,hcc,hg⟩ | ⟨g,ha,hg1,hg2,hg⟩
  · refine hK a' c' ⟨none,0,0,r.E,r.sz,[],0⟩ _ _ (.inl ⟨ha,hcc,Nat.le_add_right _ _,hown.1,rfl,rfl,rfl⟩) hkn (Aj.nilRow r.E r.sz ?_)
    exact hm.setRow (r':=⟨a',r.n+k,c',r.E,r.sz,r.xs++news,0⟩) hi hown' (fun o ho=>(by rw [hf] at ho; omega)) hone (.inl ⟨ha,hf.symm,hg⟩)
  · have h2:=(hm.nilRow r.E r.sz).moveRow (i:=i) (k:=rw.length) (r:=r) (q:=⟨none,0,0,r.E,r.sz,[],0⟩) (by rw [List.getElem?_append_left hlt']; exact hi) (by simp) rfl (by omega)
    have h3:((rw++[(⟨none,0,0,r.E,r.sz,[],0⟩:BH)]).set rw.length r).set i (⟨none,0,0,r.E,r.sz,[],0⟩:BH)=rw.set i (⟨none,0,0,r.E,r.sz,[],0⟩:BH)++[r]:=by
      rw [List.set_append_right _ _ (Nat.le_refl _),Nat.sub_self,List.set_append_left _ _ hlt']
      rfl
    rw [h3] at h2
    have h4:=h2.setRow (i:=i) (r:=⟨none,0,0,r.E,r.sz,[],0⟩) (r':=⟨a',r.n+k,c',r.E,r.sz,r.xs++news,0⟩) (by rw [List.getElem?_append_left (by simpa using hlt')]; simp [hlt']) hown' (fun o ho=>by simp at ho) hone (.inr ⟨g,ha,rfl,hg1,hg2,hg⟩)
    rw [List.set_append_left _ _ (by simpa using hlt'),List.set_set] at h4
    exact hK a' c' r _ _ (.inr rfl) hkn h4
theorem Aj.unkeep {i k:Nat} {r r' q:BH} (hm:Aj F h e pl rw w) (hi:rw[i]? = some r') (hk:rw[k]? = some q) (hne:i≠k) (K:Vt r r' q) (hf:r.frz=0) (hf':r'.frz=0) (hx:∃ ys,r'.xs=r.xs++ys):Aj F h e pl ((rw.set i r).set k ⟨none,0,0,r.E,r.sz,[],0⟩) w:=by
  rcases K with⟨k1,k2,k3,k4,k5,k6,k7⟩ | rfl
  · refine Aj.noRow r.E r.sz ?_
    obtain⟨ys,hx⟩:=hx
    obtain⟨ow,m⟩:=hm
    refine⟨ow,m.below,m.le,m.old,m.has,m.ows,m.hown,m.pls,fun j r2 hr=>?_,m.ext⟩
    rcases Hi hr with⟨rfl,rfl⟩ | ⟨_,hr⟩
    · have H:=m.rws j r' hi
      have hxt:r'.xs.take r2.xs.length=r2.xs:=by rw [hx]; exact List.take_left
      refine⟨⟨k4,?_⟩,by rw [hf]; exact Nat.zero_le _,fun ad ha=>?_,fun v hv=>H.one v (by rw [hx]; exact List.mem_append_left _ hv)⟩
      · rcases H.own.2 with⟨h1,h2⟩ | ⟨g,cap,cur,h1,h2,h3,h4,h5,h6,h7⟩
        · simp only [Value.slice.injEq] at h1
          have hz:r2.n=0:=by omega
          exact .inl ⟨by rw [← k1,← k2,h1.1,h1.2.2,hz],hz⟩
        · simp only [Value.slice.injEq] at h1
          refine .inr ⟨g,cap,cur,by rw [← k1,← k2,h1.1,h1.2.2],h2,by rw [← k5]; exact h3,Nat.le_trans k3 h4,h5,by rw [← k6]; exact h6,?_⟩
          rw [← hxt,← h7,List.take_take,k4,Nat.min_eq_left]
          rw [k6]
          exact Nat.mul_le_mul_right _ k3
      · obtain⟨q1,q2,q3⟩:=H.blk ad (by rw [k1]; exact ha)
        exact⟨q1,fun o ho=>q2 o (by rw [hf']; exact Nat.zero_le _),fun o ho=>by rw [hf] at ho; omega⟩
    · exact m.rws j r2 hr
  · have hi':=J6 hi
    have hk':=J6 hk
    have h1:=(Aj.noRow (i:=i) q.E q.sz hm).moveRow (i:=k) (k:=i) (r:=q) (q:=⟨none,0,0,q.E,q.sz,[],0⟩) (by rw [List.getElem?_set_ne hne]; exact hk) (by simp [hi']) rfl (Ne.symm hne)
    rw [List.set_set] at h1
    exact h1
theorem Aj.rowFree {i:Nat} {r:BH} (hm:Aj F h e pl rw w) (hi:rw[i]? = some r) (hf:r.frz=0):∀ ad,r.a=some ad→∀ o,h ad.block o=none:=fun ad ha o=>by
  obtain⟨ow,m⟩:=hm
  exact((m.rws i r hi).blk ad ha).2.1 o (by rw [hf]; exact Nat.zero_le _)
def FA (h:Ac) (e:AG) (pl:List Co):Prop:=∀ (j:Nat)(p:Co),pl[j]? = some p→p.own=none→∀ (k:Nat)(c:SC),p.cells[k]? = some c→h (e.blk j).1 ((e.blk j).2+k)=some (c.den e)
theorem Aj.noneIn (hm:Aj F h e pl rw w):FA h e pl:=fun j p hp ho k c hc=>by
  obtain⟨ow,m⟩:=hm
  have:=m.pls j p hp
  unfold BR at this
  rw [ho] at this
  exact this k c hc
def IY:List Co→List Co→Prop
  | [],[]=>True
  | p::ps,q::qs=>(q.own=none→p=q)∧IY ps qs
  | _,_=>False
theorem IY.get:∀ {ps qs:List Co},IY ps qs→∀ (j:Nat)(q:Co),qs[j]? = some q→q.own=none→ps[j]? = some q
  | [],[],_,_,_,h,_=>by simp at h
  | p::ps,q'::qs,H,0,q,h,ho=>by
    simp at h
    subst h
    rw [H.1 ho]
    rfl
  | p::ps,q'::qs,H,j+1,q,h,ho=>by
    simp at h
    simpa using IY.get H.2 j q h ho
  | [],_::_,H,_,_,_,_=>H.elim
  | _::_,[],H,_,_,_,_=>H.elim
theorem FA.same {pl':List Co} (H:FA h e pl) (S:IY pl pl'):FA h e pl':=fun j p hp ho k c hc=>H j p (S.get j p hp ho) ho k c hc
theorem Aj.forget {h2:Ac} {i:Nat} {r:BH} (hm:Aj F h2 e pl rw w) (hi:rw[i]? = some r) (h0:Ac.le F.h h) (hle:Ac.le h h2) (hno:∀ ad,r.a=some ad→∀ o,h ad.block o=none) (hp:FA h e pl) :
    ∃ h3,Ac.le h h3∧Aj F h3 e pl (rw.set i { r with frz:=0 }) w:=by
  obtain⟨ow,m⟩:=hm
  have H:=m.rws i r hi
  have hno':∀ b o x,h b o=some x→∀ ad,r.a=some ad→ad.block≠b:=fun b o x hx ad ha hb=>by rw [← hb,hno ad ha o] at hx; cases hx
  refine⟨fun b o=>if r.a.map (·.block)=some b then none else h2 b o,?_,ow,m.below,?_,?_,?_,m.ows,?_,?_,?_,fun b x hx=>?_⟩
  · intro b o x hx
    have : ¬ r.a.map (·.block)=some b:=fun hb=>by
      obtain⟨ad,ha,hb⟩:=Option.map_eq_some_iff.1 hb
      exact hno' b o x hx ad ha hb
    simp only [this,if_false]
    exact hle b o x hx
  · intro b o x hx
    have hx':=h0 b o x hx
    have : ¬ r.a.map (·.block)=some b:=fun hb=>by
      obtain⟨ad,ha,hb⟩:=Option.map_eq_some_iff.1 hb
      exact hno' b o x hx' ad ha hb
    simp only [this,if_false]
    exact m.le b o x hx
  · intro b o x hx
    (try dsimp only at hx)
    split at hx
    · cases hx
    · exact m.old b o x hx
  · intro b o x hx
    (try dsimp only at hx)
    split at hx
    · cases hx
    · exact m.has b o x hx
  · intro b o x k hx
    (try dsimp only at hx)
    split at hx
    · cases hx
    · exact m.hown b o x k hx
  · intro j p hj
    have hpl:=m.pls j p hj
    unfold BR at hpl ⊢
    split at hpl
    · obtain⟨q1,q2,q3,q4⟩:=hpl
      refine⟨q1,q2,q3,fun o=>?_⟩
      dsimp only
      split
      · rfl
      · exact q4 o
    · rename_i ho
      intro k c hc
      have hx:=hp j p hj ho k c hc
      have : ¬ r.a.map (·.block)=some (e.blk j).1:=fun hb=>by
        obtain⟨ad,ha,hb⟩:=Option.map_eq_some_iff.1 hb
        exact hno' _ _ _ hx ad ha hb
      simp only [this,if_false]
      exact hle _ _ _ hx
  · intro j r' hr
    rcases Hi hr with⟨rfl,rfl⟩ | ⟨hj,hr⟩
    · refine⟨H.own,Nat.zero_le _,fun ad ha=>⟨(H.blk ad ha).1,fun o _=>?_,fun o ho=>absurd ho (Nat.not_lt_zero _)⟩,H.one⟩
      have ha':r.a=some ad:=ha
      simp [ha']
    · have H':=m.rws j r' hr
      refine⟨H'.own,H'.frz,fun ad ha=>?_,H'.one⟩
      obtain⟨q1,q2,q3⟩:=H'.blk ad ha
      have : ¬ r.a.map (·.block)=some ad.block:=fun hb=>by
        obtain⟨ad',ha',hb⟩:=Option.map_eq_some_iff.1 hb
        have q4:=(H.blk ad' ha').1
        replace hb:ad'.block=ad.block:=hb
        rw [hb,q1] at q4
        exact hj (by simpa using q4)
      exact⟨q1,fun o ho=>(by show(if r.a.map (·.block)=some ad.block then none else h2 ad.block o)=_; rw [if_neg this]; exact q2 o ho),fun o ho=>(by show(if r.a.map (·.block)=some ad.block then none else h2 ad.block o)=_; rw [if_neg this]; exact q3 o ho)⟩
  · obtain⟨q1,q2,q3,q4,q5,q6⟩:=m.ext b x hx
    refine⟨q1,q2,q3,q4,fun o v hv=>?_,fun hc o=>?_⟩
    · dsimp only at hv
      split at hv
      · cases hv
      · exact q5 o v hv
    · dsimp only
      split
      · rfl
      · exact q6 hc o
theorem Su:∀ (e e':AG)(j:Nat),j<e.length→AG.blk (e++e') j=AG.blk e j
  | [],_,_,h=>by simp at h
  | _::_,_,0,_=>rfl
  | _::r,e',j+1,h=>Su r e' j (by simpa using h)
theorem FA.more {e':AG} {qs:List Co} (H:FA h e pl) (hl:pl.length≤e.length) (hnp:(pl.all fun(p:Co)=>p.own.isSome || JI p.cells)=true) (hq:(qs.all fun q=>q.own.isSome || q.cells.isEmpty)=true):FA h (e++e') (pl++qs):=fun j p hp ho k c hc=>by
  rcases Nat.lt_or_ge j pl.length with hj | hj
  · rw [List.getElem?_append_left hj] at hp
    have hb:AG.blk (e++e') j=AG.blk e j:=Su e e' j (Nat.lt_of_lt_of_le hj hl)
    have hd:=H j p hp ho k c hc
    have hn:=List.all_eq_true.1 hnp p (List.mem_of_getElem? hp)
    rw [ho] at hn
    simp only [Option.isSome_none,Bool.false_or] at hn
    have hd2:=congrArg (·[k]?) (J1 (e:=e) (e':=e++e') hn)
    simp only [List.getElem?_map,hc,Option.map_some,Option.some.injEq] at hd2
    rw [hb,← hd2]
    exact hd
  · rw [List.getElem?_append_right hj] at hp
    have:=List.all_eq_true.1 hq p (List.mem_of_getElem? hp)
    rw [ho] at this
    simp only [Option.isSome_none,Bool.false_or,List.isEmpty_iff] at this
    rw [this] at hc
    simp at hc
theorem Aj.Fle (hm:Aj F h e pl rw w):Ac.le F.h h:=let ⟨_,m⟩:=hm; m.le
end
end Go.Proofs.YthcbemnflgjadaaGreat
