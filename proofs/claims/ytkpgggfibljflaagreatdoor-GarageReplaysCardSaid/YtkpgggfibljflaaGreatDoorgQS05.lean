/- What a proof leans on: a machine that steps through code, and what functions compute. -/
import Derived.Test.YtkpgggfibljflaaGreatDoorgQS04
import Derived.Lib.AppendStr
set_option linter.all false
namespace Go.Proofs.YtkpgggfibljflaaGreatDoor
open Go Go.RowKit
open Rep (rep)
def NW (p:Bool) (u:Value):Ending:=match p with
 | false=>.returned u
 | true=>.panicked [{ v:=u,recovered:=false }]
section
variable {Ty:Nat→Type} [rT:∀ k,Rep (Ty k)] [RFs] [UM Ty] [UML Ty] {P:Program} {F:Fr} {h:Ad} {g:GE} {w w':World} {s:Az Ty} {base:Nat}
variable {K:Act→World→Prop} {Q:Exit→Act→World→Prop} {t:Array Value} {d:List Deferred} {m:List (Nat×V Ty)} {o:Oper}
def Zr (P:Program) (vals:Array Value) (w:World) (R:Ending→World→Prop):Prop :=
 ∃ (l:Nat)(as:List Value)(r:Loop),vals=(as++[Value.map (some l)]).toArray∧w.heap[l]? = some (.loop r)∧as.length=r.params.size∧RoundIn Fence.wide 0 P l r.fn ((r.params.zip as.toArray).foldl (fun tmps (t,a)=>tmps.setIfInBounds t a) r.tmps) r.assign r.body w R
def Es (P:Program) (f:FuncId) (vals:Array Value) (w:World) (R:Ending→World→Prop):Prop:=if f=An then Zr P vals w R else Calls P f vals w R
theorem Es.of {f:FuncId} {vals:Array Value} {w:World} {R:Ending→World→Prop} (hf:Nat.blt f An=true) (h:Calls P f vals w R):Es P f vals w R:=by
 unfold Es
 rw [if_neg (Nj hf)]; exact h
theorem Es.calls {f:FuncId} {vals:Array Value} {w:World} {R:Ending→World→Prop} (hf:f≠An) (h:Es P f vals w R):Calls P f vals w R:=by
 unfold Es at h
 rwa [if_neg hf] at h
theorem Es.mono {f:FuncId} {vals:Array Value} {w:World} {R R':Ending→World→Prop} (h:Es P f vals w R) (hr:∀ en w',R en w'→R' en w'):Es P f vals w R':=by
 unfold Es at h ⊢
 split
 · rename_i hf
   rw [if_pos hf] at h
   obtain⟨l,as,r,q1,q2,q3,q4⟩:=h
   exact⟨l,as,r,q1,q2,q3,q4.mono hr⟩
 · rename_i hf
   rw [if_neg hf] at h
   exact h.mono hr
def Cm (P:Program) (call:AT Ty):Prop:=∀ (f:FuncId)(args:List (V Ty))(k:Nat)(s:Az Ty)(r:CR Ty),(call f args k s).runK some=some r →
 ∀ (F:Fr)(h:Ad)(g:GE)(w:World)(vals:List Value),Ag F h g (AL.get s) w→HG k (AL.get s)→V.oksB (Cl k) args=true→V.dens g h args vals →
  Es P f vals.toArray w (fun en w'=>∃ (h':Ad)(g':GE)(u:Value),Ad.le h h'∧(∀ i,Cl k i=true→g' i=g i)∧Ag F h' g' (AL.get r.s) w'∧HG r.n (AL.get r.s)∧k≤r.n∧r.v.okB (Cl r.n)=true∧r.v.den g' h' u∧en=NW r.p u)
def E5 (P:Program):Prop:=∀ (f:FuncId)(fn:Func),P.funcs[f]? = some fn→(fn.name == "runtime.NumGoroutine")=false
theorem Aec (hP:E5 P) {f:FuncId} (hh:AcK P f=true) (args:Array Value) (w:World):(callFunc f args).run P w=.ok (.enter f args) w:=by
 unfold AcK at hh
 split at hh
 · rename_i fn hf
   unfold callFunc
   have h1:=hP f fn hf
   simp only [Sem.run_bind]
   have hpr:(program:Sem Program).run P w=.ok P w:=rfl
   simp only [hpr,Result.andThen_ok,hf,h1,Zaz,if_false]
   have:fn.body.isNone=false:=by cases hb:fn.body <;> simp_all
   simp [this]
 · cases hh
theorem NX {k:Nat} {y:V Ty} {l:List (Ty k)} {u:Value} (hm:Ag F h g (AL.get s) w) (hy:y.den g h u) (hh:Mh s k y=some l):∃ a c us,u=.slice a l.length c∧Ar h l us∧∀ (j:Nat)(v:Value),us[j]? = some v→∃ ad,a=some ad∧ad.spot=none∧w.cell? ⟨ad.block,ad.off+j,none⟩=some v:=by
 unfold Mh at hh
 split at hh
 · rename_i k' l'
   split at hh
   · rename_i hk
     subst hk
     cases hh
     unfold V.den at hy
     obtain⟨a,c,rfl,us,h1,h2,_⟩:=hy
     refine⟨a,c,us,rfl,h1,fun j v hv=>?_⟩
     obtain⟨ad,e1,e2,e3⟩:=h2 j v hv
     exact⟨ad,e1,e2,Ki (hm.has _ _ _ e3).2 (Dt (h1.one v (Za4 hv)))⟩
   · cases hh
 · cases hh
   unfold V.den at hy
   exact⟨none,0,[],hy,rfl,by simp⟩
 · rename_i k' i
   split at hh
   · rename_i hk
     subst hk
     split at hh
     · rename_i k2 l' hi
       split at hh
       · rename_i hk2
         subst hk2
         cases hh
         unfold V.den at hy
         obtain⟨hn,hrow⟩:=hm.row hi
         rcases hrow with⟨hnl,rfl⟩ | ⟨hnl,us,sp,_,q3,_,_,_,q4⟩
         · rw [hnl] at hy
           exact⟨none,0,[],hy,rfl,by simp⟩
         · rw [hnl] at hy
           exact⟨_,_,us,by rw [hn]; exact hy,q3,fun j v hv=>⟨_,rfl,rfl,by simpa using q4 j v hv⟩⟩
       · cases hh
     · cases hh
   · cases hh
 · cases hh
variable [UV Ty] [UL Ty]
theorem PU {E:TypeId} {l r:List (Ty E)} {a0:Option Addr} {n0 c0:Nat} {us news:List Value} {M1:Mo Ty}
  (hm:Ag F h g (AL.get s) w) {p:Nat→Bool} (hf:Dg p base) (hin:EV p (AL.get s)) (hM:∀ i c,M1 i=some c→AL.get s i=some c) (hown:w.ownsRow F.w.heap.size E (Rep.sz (Ty E)) (.slice a0 n0 c0) n0 us) (hcu:Ar h l us) (hln:l.length=n0)
  (hfree:∀ ad,a0=some ad→F.w.heap.size≤ad.block∧F.X ad.block=none∧(∀ o,h ad.block o=none)∧∀ j c,M1 j=some c→(g j).nl=false→(g j).b≠ad.block)
  (hcn:Ar h r news) {a':Option Addr} {c':Nat} {w':World} (hex:(execOp (Act.mk t d).eval o).run P w=.ok (.value (.slice a' (n0+r.length) c')) w')
  (hown':w'.ownsRow F.w.heap.size E (Rep.sz (Ty E)) (.slice a' (n0+r.length) c') (n0+r.length) (us++news))
  (hc:(a' = a0∧w.grownBy w' (a0.map (·.block)))∨(∃ g,a' = some ⟨g,0,none⟩∧w.heap.size≤g∧g<w'.heap.size∧w.grownBy w' none))
  (hK:∀ (g':GE)(w':World)(u:Value),(∀ i,p i=true→g' i=g i)→Ag F h g' (M1.put base (some (.row E (l++r)))) w'→(V.hdr E base:V Ty).den g' h u→K ((Act.mk t d).put o.dst u) w'):o.wp P ⟨t,d⟩ w K Q:=by
 have hm1:Ag F h g M1 w:=hm.less hM
 have hin1:EV p M1:=fun i c hi=>hin i c (hM i c hi)
 unfold Oper.wp
 rw [hex]
 have hcz:Ar h (l++r) (us++news):=hcu.append hcn
 have hlz:(l++r).length=n0+r.length:=by rw [Zan,hln]
 -- from an owned row behind the append to a row of the machine's
 have fin:∀ ad,a' = some ad→ad.block<w'.heap.size→Ag F h g M1 w'→F.w.heap.size≤ad.block→F.X ad.block=none→(∀ o,h ad.block o=none)→(∀ j c,M1 j=some c→(g j).nl=false→(g j).b≠ad.block)→K ((Act.mk t d).put o.dst (.slice a' (n0+r.length) c')) w':=by
  intro ad had hlt hm2 f1 f2 f3 f4
  rcases hown'.2 with⟨hv,_⟩ | ⟨gb,cap,cur,hv,hbg,hg,hnc,hcm,hcs,htake⟩
  · rw [had] at hv; simp at hv
  · simp only [Value.slice.injEq,true_and] at hv
    obtain⟨ha,rfl⟩:=hv
    rw [had] at ha
    cases ha
    refine hK (F5 g base ⟨gb,n0+r.length,c',false⟩) w' _ (fun i hi=>CT hf hi) ?_ ?_
    · have hm3:Ag F h (F5 g base ⟨gb,n0+r.length,c',false⟩) M1 w':=hm2.agree (p:=p) (fun i hi=>CT hf hi) fun i c hi=>hin1 i c hi
      have hMn:M1 base=none:=hin1.none hf
      refine hm3.newC hMn ?_ fun _=>?_
      · rw [BA]
        refine⟨hlz,?_⟩
        rw [if_neg (by simp)]
        refine⟨us++news,cur.toList.drop ((n0+r.length)*Rep.sz (Ty E)),?_,hcz,?_,hnc,hcm⟩
        · rw [← htake,Zba,ZaX]; exact hg
        · rw [← htake,Zba,ZaG,hcs]
      · rw [BA]
        refine⟨f1,hlt,f2,f3,fun j c hj hn=>?_⟩
        rw [CT hf (hin1 j c hj).1] at hn ⊢
        exact f4 j c hj hn
    · unfold V.den; rw [BA,had]; rfl
 rcases hc with⟨ha,hg⟩ | ⟨gb,ha,hg1,hg2,hg⟩
 · cases a0 with
   | none =>
    subst ha
    have hg':w.grownBy w' none:=hg
    have h0:n0+r.length=0∧c' = 0:=by
     rcases hown'.2 with⟨hv,hn⟩ | ⟨gb,cap,cur,hv,_⟩
     · simp only [Value.slice.injEq,true_and] at hv; exact hv
     · simp at hv
    have hz0:l++r=[]:=Za3 (by rw [hlz]; exact h0.1)
    refine hK (F5 g base ⟨0,0,0,true⟩) w' _ (fun i hi=>CT hf hi) ?_ ?_
    · rw [hz0]
      exact(hm1.grow hg').newNil hf hin1 rfl rfl
    · unfold V.den; rw [BA,h0.1,h0.2]; rfl
   | some ad =>
    subst ha
    obtain⟨f1,f2,f3,f4⟩:=hfree ad rfl
    have hg':w.grownBy w' (some ad.block):=hg
    have hlt:ad.block<w.heap.size:=by
     rcases hown.2 with⟨hv,_⟩ | ⟨gb,cap,cur,hv,_,hgb,_⟩
     · simp at hv
     · simp only [Value.slice.injEq,Option.some.injEq,true_and] at hv
       rw [hv.1]
       exact(Zag.1 hgb).1
    exact fin ad rfl (Zai hlt hg'.size) (hm1.setFree hg' f1 f2 f3 f4) f1 f2 f3 f4
 · refine fin ⟨gb,0,none⟩ ha hg2 (hm1.grow hg) (ZaF hm.size hg1) ?_ ?_ ?_
   · cases hx:F.X gb with
     | none=>rfl
     | some x=>have:=(Zag.1 (hm.ext _ x hx).2.1).1; omega
   · intro o
     cases hx:h gb o with
     | none=>rfl
     | some x=>have:=hm.lt hx; omega
   · intro j c hj hn heq
     have:=(hm1.own j c hj hn).2.1
     simp only at heq
     omega
theorem Nu {T E:TypeId} {a b:Operand} {l r z:List (Ty E)} {y:V Ty} {a0:Option Addr} {n0 c0:Nat} {us:List Value} {M1:Mo Ty} (hop:o.op=.call ⟨.builtin .append,#[a,b],#[T,T]⟩) (hT:P.underlying T=some (.slice E)) (hE:FG (Ty:=Ty) P E=true)
  (hm:Ag F h g (AL.get s) w) {p:Nat→Bool} (hf:Dg p base) (hin:EV p (AL.get s)) (hM:∀ i c,M1 i=some c→AL.get s i=some c) (hxa:(Act.mk t d).eval a=.slice a0 n0 c0) (hown:w.ownsRow F.w.heap.size E (Rep.sz (Ty E)) (.slice a0 n0 c0) n0 us) (hcu:Ar h l us) (hln:l.length=n0)
  (hfree:∀ ad,a0=some ad→F.w.heap.size≤ad.block∧F.X ad.block=none∧(∀ o,h ad.block o=none)∧∀ j c,M1 j=some c→(g j).nl=false→(g j).b≠ad.block)
  (hyb:y.den g h ((Act.mk t d).eval b)) (hyl:Mh s E y=some r) (hz:app l r=some z)
  (hK:∀ (g':GE)(w':World)(u:Value),(∀ i,p i=true→g' i=g i)→Ag F h g' (M1.put base (some (.row E z))) w'→(V.hdr E base:V Ty).den g' h u→K ((Act.mk t d).put o.dst u) w'):o.wp P ⟨t,d⟩ w K Q:=by
 obtain⟨rfl,hlen⟩:=UY hz
 obtain⟨ii,zv,e1,e2,e3,e5,e6,e7⟩:=Gv hE
 obtain⟨a2,c2,news,e8,hcn,hnews⟩:=NX hm hyb hyl
 rw [Zan] at hlen
 have hmul:(n0+r.length)*ii.bytes≤1000000000*10000:=Nat.mul_le_mul (by omega) e7
 obtain⟨a',c',w',hr,hown',hc⟩:=P7 (P:=P) w F.w.heap.size T o.type E ii zv (Rep.sz (Ty E)) ii.bytes hT e1 e2 e3 rfl e5 e6 a0 c0 n0 us hown a2 r.length c2 news hcn.len
  (fun j u hu=>by obtain⟨ad,q1,q2,q3⟩:=hnews j u hu; exact⟨ad,q1,by rw [Ng ad j q2]; exact q3⟩) hcn.one (by unfold maxLen; omega) (by omega) hm.size
 refine PU hm hf hin hM hown hcu hln hfree hcn ?_ hown' hc hK
 unfold execOp
 simp only [hop,resolve,invoke,builtin,Sem.run_bind,Sem.run_pure,Result.andThen_ok,List.map_toArray,Zbm,List.map_nil,hxa,e8,hr]
omit [UV Ty] [UL Ty] in
theorem Rw (q:ByteArray):Lib.strCells q=(O1 q).map (.int .u8):=by
 unfold Lib.strCells O1
 rw [List.map_map]
 rfl
theorem Ln (base:Nat) (t u ty:TypeId) (e:TypeId) (i:TypeInfo) (z:Value) (ht:P.underlying t=some (.slice e)) (hu:P.underlying u=some .string) (hi:P.info? e=some i) (hz:i.zero=some z)
  (hsize:i.size=1) (hzs:z.cells.size=1) (a0:Option Addr) (c0:Nat) (n:Nat) (xs:List Value) (hown:w.ownsRow base e 1 (.slice a0 n c0) n xs) (q:ByteArray)
  (h63:n+q.size≤maxLen) (hbytes:(n+q.size)*i.bytes≤140737488355328) (hbase:base≤w.heap.size) :
  ∃ a' c' w',(Builtin.append_ #[t,u] ty #[.slice a0 n c0,.string q]).run P w=.ok (.slice a' (n+q.size) c') w'∧w'.ownsRow base e 1 (.slice a' (n+q.size) c') (n+q.size) (xs++Lib.strCells q) ∧
   ((a' = a0∧w.grownBy w' (a0.map (·.block)))∨(∃ g,a' = some ⟨g,0,none⟩∧w.heap.size≤g∧g<w'.heap.size∧w.grownBy w' none)):=by
 have hsmall:n+q.size≤9223372036854775807:=by simp only [maxLen] at h63; omega
 have hxl:xs.length=n:=by simpa using hown.1
 have hlen:(xs++Lib.strCells q).length=(n+q.size)*1:=by rw [Zan,hxl,Lib.strCells_length,Nat.mul_one]
 have grown:∀ (old:Nat),old<n+q.size →
   (w.drew.alloc (.cells (xs.toArray++(Lib.strCells q).toArray++Builtin.zeroCells z.cells (grownCap w (n+q.size) old e-(n+q.size))) e)).ownsRow base e 1
    (.slice (some ⟨w.heap.size,0,none⟩) (n+q.size) (grownCap w (n+q.size) old e)) (n+q.size) (xs++Lib.strCells q) ∧
   w.grownBy (w.drew.alloc (.cells (xs.toArray++(Lib.strCells q).toArray++Builtin.zeroCells z.cells (grownCap w (n+q.size) old e-(n+q.size))) e)) none:=by
  intro old ho
  have hge:=grownCap_ge w (n+q.size) old e
  have hcm:grownCap w (n+q.size) old e≤maxLen:=grownCap_le_maxLen w (n+q.size) old e h63
  refine⟨⟨hlen,.inr ⟨w.heap.size,_,_,rfl,hbase,heap_alloc_new w.drew _,hge,hcm,?_,?_⟩⟩,⟨rfl,rfl,rfl,by simp,fun k hk _=>Go.heap_alloc_old w.drew _ hk⟩⟩
  · simp only [Array.size_append,Zbg,size_zeroCells,hzs,hxl,Lib.strCells_length]
    omega
  · simp only [Array.toList_append,ZaC]
    rw [← ZaC,← hlen]
    exact List.take_left
 rcases hown.2 with⟨hv,rfl⟩ | ⟨gb,cap,cur,hv,hbg,hg,hnc,hcm,hcs,htake⟩
 · simp only [Value.slice.injEq] at hv
   obtain⟨rfl,_,rfl⟩:=hv
   have hx:xs=[]:=Za3 hxl
   subst hx
   by_cases hm:q.size=0
   · have hn:Lib.strCells q=[]:=Za3 (by rw [Lib.strCells_length]; exact hm)
     refine⟨none,0,w,?_,by rw [hm,hn]; exact World.ownsRow_nil w base e 1,.inl ⟨rfl,⟨rfl,rfl,rfl,Zal _,fun _ _ _=>rfl⟩⟩⟩
     have hf:=Lib.run_firstCells_string (P:=P) w 1 q
     rw [hm] at hf
     simp [Builtin.append_,run_underlying ht,run_underlying hu,sizeOf,typeInfo,hi,hsize,Builtin.lenOf,hm,hf]
   · have hr:=run_append_nil_string (P:=P) w t u ty e i z ht hu hi hz q (by omega) (by omega) (by have hb:=hbytes; simp only [Zar] at hb; omega)
     have hgr:=grown 0 (by omega)
     simp only [Zar,Za6,Array.empty_append] at hgr ⊢
     have e1:(q.data.map fun b=>Value.int .u8 b.toNat)=(Lib.strCells q).toArray:=by
      apply Array.ext'
      simp [Lib.strCells]
     rw [e1] at hr
     exact⟨_,_,_,hr,hgr.1,.inr ⟨_,rfl,Zal _,by simp,hgr.2⟩⟩
 · simp only [Value.slice.injEq,true_and] at hv
   obtain⟨rfl,rfl⟩:=hv
   by_cases hroom:n+q.size≤c0
   · have hcs':cur.size=c0:=by simpa using hcs
     have hr:=Lib.run_append_room_string (P:=P) w t u ty e i ht hu hi hsize gb n c0 cur hg q hroom (by omega)
     refine⟨_,_,_,hr,⟨hlen,.inr ⟨gb,c0,_,rfl,hbg,setRow_heap w gb cur _ e _ hg,hroom,hcm,?_,?_⟩⟩,.inl ⟨rfl,⟨rfl,rfl,rfl,by simp,fun k _ hk=>setRow_other w gb k _ (fun e=>hk (by simp [e]))⟩⟩⟩
     · simp only [Zbg,Zan,ZaU,Zbo,ZaG,Lib.strCells_length]
       omega
     · have ht':cur.toList.take n=xs:=by simpa using htake
       rw [ht',← hlen]
       exact List.take_left
   · have holds:∀ j u,xs[j]? = some u→w.cell? ((⟨gb,0,none⟩:Addr).add j)=some u:=hown.cells (g:=gb) rfl
     have hr:=Lib.run_append_grow_string (P:=P) w t u ty e i z ht hu hi hz ⟨gb,0,none⟩ n c0 xs (by rw [hsize]; simpa using hxl) holds q (by omega) (by omega) (growslice_fits (by omega) hbytes)
     have hgr:=grown c0 (by omega)
     exact⟨_,_,_,hr,hgr.1,.inr ⟨_,rfl,Zal _,by simp,hgr.2⟩⟩
theorem Nv {T T2:TypeId} {a b:Operand} {l z:List (Ty (UM.b8 Ty))} {q:ByteArray} {a0:Option Addr} {n0 c0:Nat} {us:List Value} {M1:Mo Ty} (hop:o.op=.call ⟨.builtin .append,#[a,b],#[T,T2]⟩) (hT:P.underlying T=some (.slice (UM.b8 Ty))) (hT2:P.underlying T2=some .string) (hE:FG (Ty:=Ty) P (UM.b8 Ty)=true)
  (hm:Ag F h g (AL.get s) w) {p:Nat→Bool} (hf:Dg p base) (hin:EV p (AL.get s)) (hM:∀ i c,M1 i=some c→AL.get s i=some c) (hxa:(Act.mk t d).eval a=.slice a0 n0 c0) (hown:w.ownsRow F.w.heap.size (UM.b8 Ty) (Rep.sz (Ty (UM.b8 Ty))) (.slice a0 n0 c0) n0 us) (hcu:Ar h l us) (hln:l.length=n0)
  (hfree:∀ ad,a0=some ad→F.w.heap.size≤ad.block∧F.X ad.block=none∧(∀ o,h ad.block o=none)∧∀ j c,M1 j=some c→(g j).nl=false→(g j).b≠ad.block)
  (hyb:(Act.mk t d).eval b=.string q) (hz:app l (UM.bts q)=some z)
  (hK:∀ (g':GE)(w':World)(u:Value),(∀ i,p i=true→g' i=g i)→Ag F h g' (M1.put base (some (.row (UM.b8 Ty) z))) w'→(V.hdr (UM.b8 Ty) base:V Ty).den g' h u→K ((Act.mk t d).put o.dst u) w'):o.wp P ⟨t,d⟩ w K Q:=by
 obtain⟨rfl,hlen⟩:=UY hz
 obtain⟨ii,zv,e1,e2,e3,e5,e6,e7⟩:=Gv hE
 have h8:Rep.sz (Ty (UM.b8 Ty))=1:=UML.b8_sz
 have hbl:(UM.bts (Ty:=Ty) q).length=q.size:=UML.bts_len q
 rw [Zan,hbl] at hlen
 have hmul:(n0+q.size)*ii.bytes≤1000000000*10000:=Nat.mul_le_mul (by omega) e7
 rw [h8] at hown e3 e5
 obtain⟨a',c',w',hr,hown',hc⟩:=Ln (P:=P) (w:=w) F.w.heap.size T T2 o.type (UM.b8 Ty) ii zv hT hT2 e1 e2 e3 e5 a0 c0 n0 us hown q (by unfold maxLen; omega) (by omega) hm.size
 refine PU (l:=l) (r:=UM.bts q) (news:=Lib.strCells q) (a':=a') (c':=c') (w':=w') hm hf hin hM (by rw [h8]; exact hown) hcu hln hfree (by rw [Rw]; exact UML.bts_rep h q) ?_ (by rw [hbl,h8]; exact hown') hc hK
 rw [hbl]
 unfold execOp
 simp only [hop,resolve,invoke,builtin,Sem.run_bind,Sem.run_pure,Result.andThen_ok,List.map_toArray,Zbm,List.map_nil,hxa,hyb,hr]
theorem Ts {args:Array Operand} {tys:Array TypeId} {call:AT Ty} {oc:Oc Ty} (hop:o.op=.call ⟨.builtin .append,args,tys⟩) (hm:Ag F h g (AL.get s) w) {p:Nat→Bool} (hf:Dg p base) (hin:EV p (AL.get s)) (he:Lj g h (Gu m) ⟨t,d⟩) (hi:O5 p (Gu m)) (hr:(O2 P call base m s (.call ⟨.builtin .append,args,tys⟩)).runK some=some oc) (hK:Vp F h g p base (AL.get s) K Q ⟨t,d⟩ o.dst oc):o.wp P ⟨t,d⟩ w K Q:=by
 rw [O2] at hr
 split at hr
 · rename_i a b T T2 ha ht
   have ha:=G5 ha
   have ht:=G5 ht
   subst ha; subst ht
   split at hr
   · rename_i E x q hT hx hy
     unfold Ad3 at hr
     cases hbb:(Nat.beq E (UM.b8 Ty) && FG (Ty:=Ty) P (UM.b8 Ty) && AdY P T2) with
     | false=>rw [hbb] at hr; cases hr
     | true =>
      rw [hbb,Zac] at hr
      obtain⟨hb1,hb3⟩:=Ao hbb
      obtain⟨hb1,hE⟩:=Ao hb1
      have:=Zab hb1
      subst this
      have hT2:P.underlying T2=some .string:=by
       unfold AdY at hb3
       split at hb3
       · assumption
       · cases hb3
      have hqe:(Act.mk t d).eval b=.string q:=by have:=he b _ hy; unfold V.den at this; exact this
      split at hr
      · rename_i l hl
        split at hr
        · rename_i k i
          rw [Tr.runK_ask] at hr
          obtain⟨z,hz,hr⟩:=Zae.1 hr
          cases hr
          have hxe:=he a _ hx
          unfold V.den at hxe
          simp only [Mh] at hl
          split at hl
          · rename_i hk
            subst hk
            split at hl
            · rename_i k3 l3 hcell
              split at hl
              · rename_i hk3
                subst hk3
                cases hl
                obtain⟨hn,hrow⟩:=hm.row hcell
                have hM:∀ j c,(Mo.put (AL.get s) i none) j=some c→AL.get s j=some c:=fun j c hj=>by
                 unfold Mo.put at hj
                 split at hj
                 · cases hj
                 · exact hj
                have hfin:∀ (g':GE)(w':World)(u:Value),(∀ i,p i=true→g' i=g i)→Ag F h g' ((Mo.put (AL.get s) i none).put base (some (.row (UM.b8 Ty) z))) w'→(V.hdr (UM.b8 Ty) base:V Ty).den g' h u→K ((Act.mk t d).put o.dst u) w':=fun g' w' u q1 q2 q3 =>
                 hK h g' w' u (Ad.le_refl _) q1 q2 (hin.del.up.put DB rfl) q3 (by unfold V.okB; exact DB)
                rcases hrow with⟨hnl,rfl⟩ | ⟨hnl,us,sp,hheap,hc,hcap,hnc,hml,_⟩
                · rw [hnl] at hxe
                  exact Nv (M1:=Mo.put (AL.get s) i none) hop hT hT2 hE hm hf hin hM hxe (World.ownsRow_nil _ _ _ _) (us:=[]) (l:=[]) Ar.nil rfl (fun ad had=>by cases had) hqe hz hfin
                · rw [hnl] at hxe
                  simp only [Zaz,if_false] at hxe
                  have hul:us.length=(g i).n*Rep.sz (Ty (UM.b8 Ty)):=by rw [hc.len,hn]
                  refine Nv (M1:=Mo.put (AL.get s) i none) (us:=us) hop hT hT2 hE hm hf hin hM hxe ⟨hul,.inr ⟨(g i).b,_,_,rfl,(hm.own _ _ hcell hnl).1,hheap,hnc,hml,by simpa using hcap,?_⟩⟩ hc hn ?_ hqe hz hfin
                  · rw [← hul]; simp
                  · intro ad had
                    cases had
                    obtain⟨o1,o2,o3,o4⟩:=hm.own _ _ hcell hnl
                    refine⟨o1,o3,o4,fun j c hj hnj heq=>?_⟩
                    unfold Mo.put at hj
                    split at hj
                    · cases hj
                    · rename_i hne
                      exact hne (hm.inj _ _ _ _ hj hcell hnj hnl heq)
              · cases hl
            · cases hl
          · cases hl
        · rw [Tr.runK_ask] at hr
          obtain⟨z,hz,hr⟩:=Zae.1 hr
          cases hr
          have hxe:=he a _ hx
          unfold V.den at hxe
          cases hl
          exact Nv (M1:=AL.get s) hop hT hT2 hE hm hf hin (fun _ _ hh=>hh) hxe (World.ownsRow_nil _ _ _ _) (us:=[]) (l:=[]) Ar.nil rfl (fun ad had=>by cases had) hqe hz
           fun g' w' u q1 q2 q3=>hK h g' w' u (Ad.le_refl _) q1 q2 (hin.up.put DB rfl) q3 (by unfold V.okB; exact DB)
        · cases hr
      · cases hr
   · rename_i E x y _ hT hx hy
     split at hr
     · rename_i l r hl hl2
       cases hE:FG (Ty:=Ty) P E with
       | false=>rw [hE] at hr; cases hr
       | true =>
        rw [hE,Zac] at hr
        split at hr
        · rename_i k i
          cases hTT:Nat.beq T2 T with
          | false=>rw [hTT] at hr; cases hr
          | true =>
           have hTT:=Zab hTT
           subst hTT
           rw [show Nat.beq T2 T2=true by simp,Zac,Tr.runK_ask] at hr
           obtain⟨z,hz,hr⟩:=Zae.1 hr
           cases hr
           have hxe:=he a _ hx
           unfold V.den at hxe
           simp only [Mh] at hl
           split at hl
           · rename_i hk
             subst hk
             split at hl
             · rename_i k3 l3 hcell
               split at hl
               · rename_i hk3
                 subst hk3
                 cases hl
                 obtain⟨hn,hrow⟩:=hm.row hcell
                 have hM:∀ j c,(Mo.put (AL.get s) i none) j=some c→AL.get s j=some c:=fun j c hj=>by
                  unfold Mo.put at hj
                  split at hj
                  · cases hj
                  · exact hj
                 have hfin:∀ (g':GE)(w':World)(u:Value),(∀ i,p i=true→g' i=g i)→Ag F h g' ((Mo.put (AL.get s) i none).put base (some (.row k3 z))) w'→(V.hdr k3 base:V Ty).den g' h u→K ((Act.mk t d).put o.dst u) w':=fun g' w' u q1 q2 q3 =>
                  hK h g' w' u (Ad.le_refl _) q1 q2 (hin.del.up.put DB rfl) q3 (by unfold V.okB; exact DB)
                 rcases hrow with⟨hnl,rfl⟩ | ⟨hnl,us,sp,hheap,hc,hcap,hnc,hml,_⟩
                 · rw [hnl] at hxe
                   exact Nu (M1:=Mo.put (AL.get s) i none) hop hT hE hm hf hin hM hxe (World.ownsRow_nil _ _ _ _) (us:=[]) (l:=[]) Ar.nil rfl (fun ad had=>by cases had) (he b _ hy) hl2 hz hfin
                 · rw [hnl] at hxe
                   simp only [Zaz,if_false] at hxe
                   have hul:us.length=(g i).n*Rep.sz (Ty k3):=by rw [hc.len,hn]
                   refine Nu (M1:=Mo.put (AL.get s) i none) (us:=us) hop hT hE hm hf hin hM hxe ⟨hul,.inr ⟨(g i).b,_,_,rfl,(hm.own _ _ hcell hnl).1,hheap,hnc,hml,by simpa using hcap,?_⟩⟩ hc hn ?_ (he b _ hy) hl2 hz hfin
                   · rw [← hul]; simp
                   · intro ad had
                     cases had
                     obtain⟨o1,o2,o3,o4⟩:=hm.own _ _ hcell hnl
                     refine⟨o1,o3,o4,fun j c hj hnj heq=>?_⟩
                     unfold Mo.put at hj
                     split at hj
                     · cases hj
                     · rename_i hne
                       exact hne (hm.inj _ _ _ _ hj hcell hnj hnl heq)
               · cases hl
             · cases hl
           · cases hl
        · cases hTT:Nat.beq T2 T with
          | false=>rw [hTT] at hr; cases hr
          | true =>
           have hTT:=Zab hTT
           subst hTT
           rw [show Nat.beq T2 T2=true by simp,Zac,Tr.runK_ask] at hr
           obtain⟨z,hz,hr⟩:=Zae.1 hr
           cases hr
           have hxe:=he a _ hx
           unfold V.den at hxe
           cases hl
           exact Nu (M1:=AL.get s) hop hT hE hm hf hin (fun _ _ hh=>hh) hxe (World.ownsRow_nil _ _ _ _) (us:=[]) (l:=[]) Ar.nil rfl (fun ad had=>by cases had) (he b _ hy) hl2 hz
            fun g' w' u q1 q2 q3=>hK h g' w' u (Ad.le_refl _) q1 q2 (hin.up.put DB rfl) q3 (by unfold V.okB; exact DB)
        · cases hr
     · cases hr
   · cases hr
 · cases hr
end
end Go.Proofs.YtkpgggfibljflaaGreatDoor
