/- What a proof leans on: a machine that steps through code, and what functions compute. -/
import Derived.Test.YtkpgggfibljflaaGreatDoorgQS02
import Derived.Maps.RangeRun
import Derived.RangeFuncRecord
import Derived.DeepKeys3
import Derived.StringKeys
set_option linter.all false
namespace Go.Proofs.YtkpgggfibljflaaGreatDoor
open Go Go.RowKit
open Rep (rep)
open Go.ChangeMaps (setBlock)
def Fr.put (F:Fr) (b:Nat) (o:Option Obj):Fr:=⟨F.w,F.h,fun k=>if k=b then o else F.X k⟩
section
variable {P:Program} {ops:Array Oper} {X:List Nat} {Q:Exit→Act→World→Prop} {N:Nat} {F:Fr} {h:Ad} {e:HO} {pl:List WR} {rw:List Tb} {w w':World} {m:TM} {t:Array Value} {dd:List Deferred} {o:Oper} {d:Nat} {K:Act→World→Prop}
theorem Jj.ext (hm:Jj F h e pl rw w) {b:Nat} {o:Obj} (hx:F.X b=some o):w.heap[b]? = some o:=let ⟨_,m⟩:=hm; (m.ext b o hx).2.2.1
theorem Jj.allocX (hm:Jj F h e pl rw w) (o:Obj):Jj (F.put w.heap.size (some o)) h e pl rw (w.alloc o):=by
 have hg:=World.grownBy_alloc w o none
 obtain⟨ow,m⟩:=hm
 have m':=m.grow hg
 refine⟨ow,m'.below,m'.le,m'.old,m'.has,m'.ows,m'.hown,m'.pls,fun i r hr=>(let ⟨a,b,c,d⟩:=m'.rws i r hr; ⟨a,b,c,d⟩),fun b x hx=>?_⟩
 simp only [Fr.put] at hx
 by_cases hb:b=w.heap.size
 · subst hb
   simp only [if_true,Option.some.injEq] at hx
   subst hx
   refine⟨m.below.size,by simp,World.alloc_heap_new _ _,?_,US.none fun o=>?_⟩
   · cases hx:ow w.heap.size with
     | none=>rfl
     | some x=>have:=(m.ows _ x hx).2; omega
   · cases hx:h w.heap.size o with
     | none=>rfl
     | some x=>have:=(m.has _ o x hx).1; omega
 · simp only [hb,if_false] at hx
   exact m'.ext b x hx
theorem Jj.setX (hm:Jj F h e pl rw w) {b:Nat} {o o':Obj} (hx:F.X b=some o) (hc:XW o=false) (hg:w.grownBy w' (some b)) (ho:w'.heap[b]? = some o'):Jj (F.put b (some o')) h e pl rw w':=by
 obtain⟨ow,m⟩:=hm
 obtain⟨x1,x2,x3,x4,x5'⟩:=m.ext b o hx
 have x5:=x5'.2 hc
 have hb:∀ k,k<w.heap.size→k≠b→w'.heap[k]? = w.heap[k]?:=fun k hk hne=>hg.block k hk (by simpa using hne)
 refine⟨ow,m.below.trans ⟨hg.os,hg.tape,hg.output,hg.size,fun k hk=>hb k (Zai hk m.below.size) (by omega)⟩,m.le,m.old,?_,?_,m.hown,?_,?_,?_⟩
 · intro k o v hv
   obtain⟨q1,q2⟩:=m.has k o v hv
   refine⟨Zai q1 hg.size,?_⟩
   rw [Cd (hb k q1 (fun hk=>by rw [hk,x5 o] at hv; cases hv))]
   exact q2
 · intro k x hk
   have:=m.ows k x hk
   exact⟨this.1,Zai this.2 hg.size⟩
 · intro i p hp
   have:=m.pls i p hp
   unfold IX at this ⊢
   split at this
   · obtain⟨q1,q2,q3,q4⟩:=this
     exact⟨q1,q2,by rw [hb _ (m.ows _ _ q1).2 (fun hk=>by rw [hk,x4] at q1; cases q1)]; exact q3,q4⟩
   · exact this
 · intro i r hr
   obtain⟨q1,q2,q3,q9⟩:=m.rws i r hr
   refine⟨q1.kept hg ?_,q2,q3,q9⟩
   cases ha:r.a with
   | none=>left; simp [Value.ownBlock]
   | some ad =>
    right
    simp only [Value.ownBlock,ne_eq,Option.some.injEq]
    intro hbe
    have:=(q3 ad ha).1
    rw [hbe,x4] at this
    cases this
 · intro k x hk
   simp only [Fr.put] at hk
   by_cases hkb:k=b
   · subst hkb
     simp only [if_true,Option.some.injEq] at hk
     subst hk
     exact⟨x1,Zai x2 hg.size,ho,x4,US.none x5⟩
   · simp only [hkb,if_false] at hk
     obtain⟨h1,h2,h3,h4,h5⟩:=m.ext k x hk
     exact⟨h1,Zai h2 hg.size,by rw [hb k h2 hkb]; exact h3,h4,h5⟩
theorem Ack.map (hh:Ack h w) {b:Nat} {es:Array MapEntry} {c:Nat} (hb:h b 0=some (Jz es c)):w.heap[b]? = some (.map es c):=AaO (hh _ _ _ hb).2
end
class KRep (K:Type) where
 kv:K→Value
 inj:∀ {a b:K},kv a=kv b→a=b
open KRep (kv)
instance : KRep Int:=⟨fun k=>.int .i64 k,fun h=>by injection h⟩
instance : KRep ByteArray:=⟨fun k=>.string k,fun h=>by injection h⟩
class VRep (α:Type) where
 rv:Ad→α→Value→Prop
 mono:∀ {h h':Ad} {x:α} {v:Value},Ad.le h h'→rv h x v→rv h' x v
open VRep (rv)
instance : VRep Int:=⟨fun _ x v=>v=.int .i64 x,fun _ h=>h⟩
instance : VRep Bool:=⟨fun _ x v=>v=.bool x,fun _ h=>h⟩
instance : VRep ByteArray:=⟨fun _ x v=>v=.string x,fun _ h=>h⟩
instance {α:Type} [Rep α]:VRep (List α):=⟨fun h x v=>∃ a c,v=.slice a x.length c∧F0 h a c x,fun hle ⟨a,c,e,hr⟩=>⟨a,c,e,hr.mono hle⟩⟩
@[reducible] def VRep.agg (α:Type) [Rep α]:VRep α:=⟨fun h x v=>∃ cs,v=.agg cs.toArray∧rep h x cs,fun hle H=>by obtain⟨cs,e,hr⟩:=H; exact⟨cs,e,Rep.mono hle hr⟩⟩
structure AeY (K α:Type) where
 l:List (K×α)
inductive HQ {α β:Type} (R:α→β→Prop):List α→List β→Prop where
 | nil:HQ R [] []
 | cons {a b as bs}:R a b→HQ R as bs→HQ R (a::as) (b::bs)
theorem HQ.imp {α β:Type} {R S:α→β→Prop} (H:∀ a b,R a b→S a b):∀ {as:List α} {bs:List β},HQ R as bs→HQ S as bs
 | _,_,.nil=>.nil
 | _,_,.cons h1 h2=>.cons (H _ _ h1) (h2.imp H)
theorem HQ.len {α β:Type} {R:α→β→Prop}:∀ {as:List α} {bs:List β},HQ R as bs→as.length=bs.length
 | _,_,.nil=>rfl
 | _,_,.cons _ h=>by simp [h.len]
theorem HQ.append {α β:Type} {R:α→β→Prop}:∀ {as as':List α} {bs bs':List β},HQ R as bs→HQ R as' bs'→HQ R (as++as') (bs++bs')
 | _,_,_,_,.nil,h=>h
 | _,_,_,_,.cons h1 h2,h=>.cons h1 (h2.append h)
theorem HQ.set {α β:Type} {R:α→β→Prop}:∀ {as:List α} {bs:List β} {j:Nat} {a:α} {b:β},HQ R as bs→R a b→HQ R (as.set j a) (bs.set j b)
 | _,_,_,_,_,.nil,_=>by simp; exact .nil
 | _,_,0,_,_,.cons _ h2,h=>.cons h h2
 | _,_,_+1,_,_,.cons h1 h2,h=>.cons h1 (h2.set h)
theorem HQ.get {α β:Type} {R:α→β→Prop}:∀ {as:List α} {bs:List β} {j:Nat} {a:α},HQ R as bs→as[j]? = some a→∃ b,bs[j]? = some b∧R a b
 | _,_,_,_,.nil,h=>by simp at h
 | _,_,0,_,.cons h1 _,h=>by simp at h; subst h; exact⟨_,rfl,h1⟩
 | _,_,j+1,_,.cons _ h2,h=>by simpa using h2.get (by simpa using h)
structure Ni {K α:Type} [KRep K] [VRep α] (h:Ad) (es:List MapEntry) (c:Nat) (l:List (K×α)):Prop where
 all:HQ (fun(e:MapEntry)(p:K×α)=>e.key=kv p.1∧rv h p.2 e.val) es l
 born:(es.map (·.born)).Nodup
 lt:∀ e∈es,e.born<c
 keys:(l.map (·.1)).Nodup
theorem Ni.mono {K α:Type} [KRep K] [VRep α] {h h':Ad} {es:List MapEntry} {c:Nat} {l:List (K×α)} (hle:Ad.le h h') (H:Ni h es c l):Ni h' es c l :=
 ⟨H.all.imp fun _ _ ⟨h1,h2⟩=>⟨h1,VRep.mono hle h2⟩,H.born,H.lt,H.keys⟩
theorem Ni.nil {K α:Type} [KRep K] [VRep α] {h:Ad} {c:Nat}:Ni h [] c ([]:List (K×α)):=⟨.nil,by simp,by simp,by simp⟩
instance {K α:Type} [KRep K] [VRep α]:Rep (AeY K α) :=
 ⟨1,fun h x cs=>∃ b es c,cs=[.map (some b)]∧h b 0=some (Jz es c)∧Ni h es.toList c x.l,
  fun hle ⟨b,es,c,e1,e2,e3⟩=>⟨b,es,c,e1,hle _ _ _ e2,e3.mono hle⟩,fun⟨b,es,c,e1,_⟩=>by subst e1; rfl,fun⟨b,es,c,e1,_⟩ v hv=>by subst e1; simp at hv; subst hv; rfl⟩
def IY {K α:Type} [DecidableEq K]:List (K×α)→K→Option α
 | [],_=>none
 | p::r,k=>if p.1=k then some p.2 else IY r k
def Tc {K α:Type} [DecidableEq K]:List (K×α)→K→α→List (K×α)
 | [],k,v=>[(k,v)]
 | p::r,k,v=>if p.1=k then(k,v)::r else p::Tc r k v
section
variable {K α:Type} [DecidableEq K]
theorem P9 {k:K}:∀ {l:List (K×α)},(∀ p∈l,p.1≠k)→IY l k=none
 | [],_=>rfl
 | p::r,h=>by
  unfold IY
  rw [if_neg (h p (by simp)),P9 fun q hq=>h q (by simp [hq])]
theorem Sc {k:K} {v:α}:∀ {l:List (K×α)},(∀ p∈l,p.1≠k)→Tc l k v=l++[(k,v)]
 | [],_=>rfl
 | p::r,h=>by
  unfold Tc
  rw [if_neg (h p (by simp)),Sc fun q hq=>h q (by simp [hq])]
  rfl
theorem UZ {k:K} {x:α}:∀ {l:List (K×α)} {j:Nat},(l.map (·.1)).Nodup→l[j]? = some (k,x)→IY l k=some x
 | [],_,_,h=>by simp at h
 | p::r,0,_,h=>by
  simp at h
  subst h
  simp [IY]
 | p::r,j+1,hn,h=>by
  have hm:(k,x)∈r:=Za4 (by simpa using h)
  have hp:p.1≠k:=fun hp=>(Zbi.1 hn).1 (by show p.1∈_; rw [hp]; exact ZaV.2 ⟨_,hm,rfl⟩)
  unfold IY
  rw [if_neg hp]
  exact UZ (Zbi.1 hn).2 (by simpa using h)
theorem XY {k:K} {x v:α}:∀ {l:List (K×α)} {j:Nat},(l.map (·.1)).Nodup→l[j]? = some (k,x)→Tc l k v=l.set j (k,v)
 | [],_,_,h=>by simp at h
 | p::r,0,_,h=>by
  simp at h
  subst h
  simp [Tc]
 | p::r,j+1,hn,h=>by
  have hm:(k,x)∈r:=Za4 (by simpa using h)
  have hp:p.1≠k:=fun hp=>(Zbi.1 hn).1 (by show p.1∈_; rw [hp]; exact ZaV.2 ⟨_,hm,rfl⟩)
  unfold Tc
  rw [if_neg hp,XY (Zbi.1 hn).2 (by simpa using h)]
  rfl
end
structure KL (P:Program) (KT:TypeId) (K:Type) [KRep K]:Prop where
 check:∀ (w:World)(em:Bool)(k:K),(Instr.checkKey em 10000 KT (kv k)).run P w=.ok () w
 find:∀ (w:World)(k:K)(es:List MapEntry),(∀ e∈es,∃ q:K,e.key=kv q) →
  ((Instr.findKey KT (kv k) es).run P w=.ok none w∧∀ e∈es,e.key≠kv k)∨∃ j e,(Instr.findKey KT (kv k) es).run P w=.ok (some (j,e.val)) w∧es[j]? = some e∧e.key=kv k
 stays:∀ (w:World)(k:K),(Instr.keyThatStays (kv k) (kv k)).run P w=.ok (kv k) w
theorem KL.of_law {P:Program} {KT:TypeId} {K:Type} [KRep K] (L:WideMaps.KeyLaw P KT) (H:∀ k:K,∃ l,keyOf P KT (kv k)=some l):KL P KT K where
 check w em k:=L.check w em (H k).choose_spec
 find w k es he:=L.find w (H k).choose_spec es fun e hes=>by
  obtain⟨q,hq⟩:=he e hes
  rw [hq]
  exact H q
 stays w k:=L.stays w (H k).choose_spec
theorem KL.int {P:Program} {KT:TypeId} (hK:P.underlying KT=some (.int .i64)):KL P KT Int where
 check w em k:=MapKept.run_checkKey (k:=.int .i64 k) hK rfl em 9999
 find w k es he:=by
  rcases MapKept.findNow_spec (d:=.int .i64) (k:=.int .i64 k) rfl es 0 (fun x hx=>by obtain⟨q,hq⟩:=he x hx; rw [hq]; rfl) with⟨h1,h2⟩ | ⟨j,e,h1,h2,h3⟩
  · exact .inl ⟨MapKept.run_findKey hK h1,h2⟩
  · exact .inr ⟨j,e,by rw [Zar] at h1; exact MapKept.run_findKey hK h1,h2,h3⟩
 stays w k:=MapKept.run_keyThatStays (d:=.int .i64) (k:=.int .i64 k) rfl
theorem KL.string {P:Program} {KT:TypeId} (hK:P.underlying KT=some .string):KL P KT ByteArray where
 check w em k:=MapKept.run_checkKey (d:=.string) (k:=.string k) hK trivial em 9999
 find w k es he:=by
  rcases MapKept.findNow_spec (d:=.string) (k:=.string k) trivial es 0 (fun x hx=>by obtain⟨q,hq⟩:=he x hx; rw [hq]; trivial) with⟨h1,h2⟩ | ⟨j,e,h1,h2,h3⟩
  · exact .inl ⟨MapKept.run_findKey hK h1,h2⟩
  · exact .inr ⟨j,e,by rw [Zar] at h1; exact MapKept.run_findKey hK h1,h2,h3⟩
 stays w k:=MapKept.run_keyThatStays (d:=.string) (k:=.string k) trivial
theorem KL.wide {P:Program} {KT:TypeId} {K:Type} [KRep K] (m:Nat) (hm:decide (m+1≤10000)=true) (hk:P.keyTypeAt m KT=true) (ht:P.tiled m KT=true) (hwide:(match P.underlying KT with | some (.array _ _) | some (.struct _)=>true | _=>false)=true)
  (H:∀ k:K,(keyOf P KT (kv k)).isSome=true):KL P KT K :=
 KL.of_law (deep_law (of_decide_eq_true hm) hk ht hwide) fun k=>Option.isSome_iff_exists.1 (H k)
section
variable {P:Program} {KT:TypeId} {K α:Type} [KRep K] [DecidableEq K] [VRep α] {h:Ad} {w:World}
theorem Sd (L:KL P KT K) (w:World) (k:K) {es:List MapEntry} {c:Nat} {l:List (K×α)} (H:Ni h es c l) :
  (IY l k=none∧(∀ p∈l,p.1≠k)∧(Instr.findKey KT (kv k) es).run P w=.ok none w) ∨
  ∃ j e x,es[j]? = some e∧l[j]? = some (k,x)∧IY l k=some x∧e.key=kv k∧rv h x e.val∧(Instr.findKey KT (kv k) es).run P w=.ok (some (j,e.val)) w:=by
 have hex:∀ e∈es,∃ q:K,e.key=kv q:=fun e he=>by
  obtain⟨j,hj⟩:=List.getElem?_of_mem he
  obtain⟨p,_,hp,_⟩:=H.all.get hj
  exact⟨_,hp⟩
 rcases L.find w k es hex with⟨h1,h2⟩ | ⟨j,e,h1,h2,h3⟩
 · have hne:∀ p∈l,p.1≠k:=fun p hp hpk=>by
    obtain⟨j,hj⟩:=List.getElem?_of_mem hp
    have hlt:j<es.length:=by rw [H.all.len]; exact(Zaq.1 hj).1
    obtain⟨q,hq,hq2,_⟩:=H.all.get (Zao hlt)
    rw [hj] at hq
    cases hq
    exact h2 _ (Za9 hlt) (by rw [hq2,hpk])
   exact .inl ⟨P9 hne,hne,h1⟩
 · obtain⟨p,hp,hp2,hp3⟩:=H.all.get h2
   obtain⟨k',x⟩:=p
   have hk:k' = k:=KRep.inj (by rw [← hp2,h3])
   subst hk
   exact .inr ⟨j,e,x,h2,hp,UZ H.keys hp,h3,hp3,h1⟩
end
theorem Va {β:Type} {l:List β} {j:Nat} {a:β} (h:l[j]? = some a):l.set j a=l:=by
 apply List.ext_getElem?
 intro i
 by_cases hi:i=j
 · subst hi; rw [List.getElem?_set_self (Zaq.1 h).1,h]
 · rw [List.getElem?_set_ne (Ne.symm hi)]
section
variable {P:Program} {KT:TypeId} {K α:Type} [KRep K] [DecidableEq K] [VRep α] {h:Ad} {w:World}
theorem WU {T E:TypeId} {b c:Nat} {es:Array MapEntry} {l:List (K×α)} {k:K} {x:α} {v:Value} (hT:P.underlying T=some (.map KT E)) (L:KL P KT K) (hb:w.heap[b]? = some (.map es c))
  (H:Ni h es.toList c l) (hx:rv h x v):∃ es' c',(Instr.mapUpdate T (.map (some b)) (kv k) v).run P w=.ok () (setBlock w b (.map es' c'))∧Ni h es'.toList c' (Tc l k x):=by
 have hset:∀ o':Obj,(setObj b o').run P w=.ok () (setBlock w b o'):=fun o'=>MapKept.run_setObj_map o' hb
 rcases Sd L w k H with⟨a1,a2,a3⟩ | ⟨j,en,x',b1,b2,b3,b4,b6,b7⟩
 · refine⟨es.push { key:=kv k,val:=v,born:=c },c+1,?_,?_⟩
   · unfold Instr.mapUpdate
     simp only [Sem.run_bind,run_underlying hT,Result.andThen_ok,MapKept.run_getObj_map hb,L.check,a3,hset]
   · rw [Sc a2,Array.toList_push]
     refine⟨H.all.append (.cons ⟨rfl,hx⟩ .nil),?_,?_,?_⟩
     · rw [List.map_append,List.nodup_append]
       refine⟨H.born,by simp,fun a ha b' hb'=>?_⟩
       obtain⟨en,he,rfl⟩:=ZaV.1 ha
       have:=H.lt en he
       simp at hb'
       omega
     · intro en he
       rcases Zap.1 he with he | he
       · have:=H.lt en he; omega
       · simp at he; subst he; simp
     · rw [List.map_append,List.nodup_append]
       refine⟨H.keys,by simp,fun a ha b' hb'=>?_⟩
       obtain⟨p,hpp,rfl⟩:=ZaV.1 ha
       simp at hb'
       subst hb'
       exact a2 p hpp
 · have hes:es[j]? = some en:=by rw [← Zaw]; exact b1
   have hst:(Instr.keyThatStays (((es[j]?).map (·.key)).getD (kv k)) (kv k)).run P w=.ok (kv k) w:=by
    rw [hes]
    simp only [Option.map_some,Option.getD_some,b4]
    exact L.stays w k
   refine⟨es.modify j fun e=>{ e with key:=kv k,val:=v },c,?_,?_⟩
   · unfold Instr.mapUpdate
     simp only [Sem.run_bind,run_underlying hT,Result.andThen_ok,MapKept.run_getObj_map hb,L.check,b7,hst,hset]
   · rw [Array.toList_modify,ChangeMaps.modify_eq_set _ _ _ _ b1,XY H.keys b2]
     refine⟨H.all.set ⟨rfl,hx⟩,?_,?_,?_⟩
     · rw [List.map_set,Va (by rw [ZaD,b1]; rfl)]; exact H.born
     · intro q hq
       rcases List.mem_or_eq_of_mem_set hq with hq | rfl
       · exact H.lt q hq
       · exact H.lt en (Za4 b1)
     · rw [List.map_set,Va (by rw [ZaD,b2]; rfl)]; exact H.keys
theorem WV {T E:TypeId} {b c:Nat} {es:Array MapEntry} {l:List (K×α)} {k:K} {z:Value} (hT:P.underlying T=some (.map KT E)) (L:KL P KT K) (hb:w.heap[b]? = some (.map es c))
  (H:Ni h es.toList c l) (hz:(zeroValue E).run P w=.ok z w) (ok:Bool) :
  (IY l k=none∧(Instr.lookup T (.map (some b)) (kv k) ok).run P w=.ok (if ok then .tuple #[z,.bool false] else z) w) ∨
  ∃ x v,IY l k=some x∧rv h x v∧(Instr.lookup T (.map (some b)) (kv k) ok).run P w=.ok (if ok then .tuple #[v,.bool true] else v) w:=by
 rcases Sd L w k H with⟨a1,a2,a3⟩ | ⟨j,en,x',b1,b2,b3,b4,b6,b7⟩
 · refine .inl ⟨a1,?_⟩
   unfold Instr.lookup
   simp only [Sem.run_bind,run_underlying hT,Result.andThen_ok,MapKept.run_getObj_map hb,L.check,a3,hz,Sem.run_pure]
 · refine .inr ⟨x',en.val,b3,b6,?_⟩
   unfold Instr.lookup
   simp only [Sem.run_bind,run_underlying hT,Result.andThen_ok,MapKept.run_getObj_map hb,L.check,b7,Sem.run_pure]
end
section
variable {P:Program} {ops:Array Oper} {X:List Nat} {Q:Exit→Act→World→Prop} {N:Nat} {F:Fr} {h:Ad} {e:HO} {pl:List WR} {rw:List Tb} {w w':World} {m:TM} {t:Array Value} {dd:List Deferred} {o:Oper} {d:Nat} {K:Act→World→Prop} {KK α:Type} [KRep KK] [DecidableEq KK] [VRep α]
theorem GK (w:World) (b:Nat) (o:Obj):w.grownBy (setBlock w b o) (some b):=⟨rfl,rfl,rfl,by simp [setBlock],fun k _ hne=>by
 simp only [setBlock]
 rw [ZaN (fun hh=>hne (by rw [hh]))]⟩
theorem NR {w:World} {b:Nat} {o o':Obj} (h:w.heap[b]? = some o'):(setBlock w b o).heap[b]? = some o:=by
 have hlt:=(Zag.1 h).1
 simp [setBlock,hlt]
end
end Go.Proofs.YtkpgggfibljflaaGreatDoor
