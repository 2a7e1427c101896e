/- What a proof leans on: a machine that steps through code, and what functions compute. -/
import Derived.Test.YtkpgggfibljflaaGreatDoorgQS03
import Derived.RangeFuncIn
import Derived.RangeFuncCalls
import Derived.RangeFuncLeaves
set_option linter.all false
namespace Go.Proofs.YtkpgggfibljflaaGreatDoor
open Go Go.RowKit
open Rep (rep)
open KRep (kv)
open VRep (rv)
abbrev AdV (l:Nat):Fence:=Fence.wide.inRound l
def Fc (ops:Array Oper):Bool:=ops.toList.all fun o=>match o.op with | .defer _=>false | _=>true
section
variable {P:Program} {ops:Array Oper} {Q:Exit→Act→World→Prop} {n:Nat}
theorem Vb {l:Nat} {row:String} {args:Array Value} {w:World} {R:Value→World→Prop} (h:Rows P row args w R):RowsIn (AdV l) n P row args w R :=
 fun c cs _=>let ⟨v,w',r,s⟩:=h c cs; ⟨v,w',r,stepsIn_wide.2 s⟩
theorem AeZ (l:Nat) {o:Oper} {a:Act} {w:World} {K K':Act→World→Prop} (hQ : ¬ LetsOut Q) (ho:∀ c,o.op≠.defer c) (hK:∀ a w,K a w→K' a w) (h:o.wp P a w K Q):o.wpIn (AdV l) n P a w K' Q:=by
 refine⟨fun _ _=>trivial,?_⟩
 rw [show(AdV l).round=some l from rfl,Oper.semAt_eq _ _ _ ho]
 unfold Oper.wp at h
 generalize (execOp a.eval o).run P w=r at h
 cases r with
 | ok x w' =>
  cases x with
  | value v=>exact hK _ _ h
  | skip=>exact hK _ _ h
  | defer d=>exact hK _ _ h
  | enter f args =>
   refine⟨fun hh=>by simp [Fence.wide] at hh,?_⟩
   refine CallsIn.inRound l (callsIn_wide.2 ?_)
   refine Calls.mono h fun e w'' he=>?_
   cases e with
   | returned v=>exact hK _ _ he
   | panicked chain=>exact he
   | outgrown=>exact he
  | row row args=>exact⟨fun hh=>by simp [Fence.wide] at hh,Vb (Rows.mono h fun v w'' hv=>hK _ _ hv)⟩
  | _=>exact h.elim
 | halt x w' =>
  cases x with
  | panic v=>exact h
  | _=>exact h.elim
theorem Vc (l:Nat) (hQ : ¬ LetsOut Q) (hd:Fc ops=true):∀ (is:List Nat)(a:Act)(w:World),wpOps P ops Q is a w→wpOpsIn (AdV l) n P ops Q is a w
 | [],_,_,h=>h
 | i::is,a,w,h=>by
  unfold wpOps at h
  unfold wpOpsIn
  cases ho:ops[i]? with
  | none=>rw [ho] at h; exact Vc l hQ hd is a w h
  | some o =>
   rw [ho] at h
   simp only at h ⊢
   split at h
   · rename_i hw
     rw [if_pos hw]
     have hnd:∀ c,o.op≠.defer c:=fun c hc=>by
      have:=ZaE.1 hd o (Za4 (by rw [Zaw]; exact ho))
      rw [hc] at this
      cases this
     rcases h with h | ⟨_,h⟩
     · exact AeZ l hQ hnd (Vc l hQ hd is) h
     · exact absurd h hQ
   · rename_i hw
     rw [if_neg hw]
     exact⟨fun _ _=>trivial,Vc l hQ hd is _ w h⟩
theorem WW {l id:Nat} {a:Act} {w:World} (hQ : ¬ LetsOut Q) (hd:Fc ops=true) (h:FF P ops Q 0 a w):(Code.region id ops false).wpIn (AdV l) n P Q a w:=by
 refine wpIn_region (Vc l hQ hd _ _ _ ?_)
 unfold FF at h
 rw [List.range_eq_range']
 exact h
theorem Td {l id:Nat} {a:Act} {w:World} (hQ : ¬ LetsOut Q) (hd:Fc ops=true) (hm:P.follows .mixedOrders=true) (h:AdT P ops Q [] a w.drew):(Code.region id ops true).wpIn (AdV l) n P Q a w:=by
 refine wpIn_region_draw fun t=>Vc l hQ hd _ _ _ ?_
 simp only [Region.schedule,hm,Bool.true_or,if_true]
 refine wpAny_sound ops.size t _ a _ ?_
 unfold AdT at h
 simpa [Jy] using h
end
section
variable {P:Program} {ops:Array Oper} {X:List Nat} {Q:Exit→Act→World→Prop} {N:Nat} {F:Fr} {h:Ad} {e:HO} {pl:List WR} {rw:List Tb} {w w':World} {m:TM} {t:Array Value} {d:List Deferred}
def Fd (P:Program) (ops:Array Oper) (Q:Exit→Act→World→Prop) (i:Nat) (a:Act) (w:World):Prop:=wpOpsIn Fence.wide 0 P ops Q (List.range' i (ops.size-i)) a w
theorem O0 {id:Nat} {a:Act} (h:Fd P ops Q 0 a w):(Code.region id ops false).wp P Q a w:=by
 refine wpIn_wide.1 (wpIn_region (n:=0) ?_)
 unfold Fd at h
 rw [List.range_eq_range']
 simpa using h
theorem Vd {i:Nat} {a:Act} (hi:ops.size≤i) (h:Q .normal a w):Fd P ops Q i a w:=by
 unfold Fd
 rw [show ops.size-i=0 by omega]
 exact h
theorem WX {i:Nat} {a:Act} {o:Oper} (ho:ops[i]? = some o)
  (h:if Region.wanted o (yielded ops a.tmps) then o.wpIn Fence.wide 0 P a w (Fd P ops Q (i+1)) Q else Fd P ops Q (i+1) (a.put o.dst undef) w):Fd P ops Q i a w:=by
 have hi:i<ops.size:=(Zag.1 ho).1
 unfold Fd
 rw [show ops.size-i=(ops.size-(i+1))+1 by omega,List.range'_succ]
 unfold wpOpsIn
 simp only [ho]
 split
 · rename_i hw; rw [if_pos hw] at h; exact h
 · rename_i hw; rw [if_neg hw] at h; exact⟨fun _ _=>trivial,h⟩
theorem Afw {o:Oper} {a:Act} {w:World} {K:Act→World→Prop} (h:o.wp P a w K Q):o.wpIn Fence.wide 0 P a w K Q:=by
 refine⟨fun _ _=>trivial,?_⟩
 rw [show Fence.wide.round=none from rfl,Oper.semAt_none]
 unfold Oper.wp at h
 generalize (execOp a.eval o).run P w=r at h
 cases r with
 | ok x w' =>
  cases x with
  | value v=>exact h
  | skip=>exact h
  | defer d=>exact h
  | enter f args=>exact⟨fun hh=>by simp [Fence.wide] at hh,callsIn_wide.2 h⟩
  | row row args=>exact⟨fun hh=>by simp [Fence.wide] at hh,fun c cs _=>let ⟨v,w',r,s⟩:=h c cs; ⟨v,w',r,stepsIn_wide.2 s⟩⟩
  | _=>exact h.elim
 | halt x w' =>
  cases x with
  | panic v=>exact h
  | _=>exact h.elim
end
section
variable {P:Program} {Q:Exit→Act→World→Prop} {w:World} {t:Array Value} {d:List Deferred}
def Kj (w:World) (r:Loop):World:=(w.alloc (.deferred (some []))).alloc (.loop r)
end
open Go.ChangeMaps (setBlock)
def Ve (b:Nat):Deferred:={ target:=.collected b,args:=#[] }
section
variable {P:Program} {Q:Exit→Act→World→Prop} {N:Nat} {F:Fr} {h:Ad} {e:HO} {pl:List WR} {rw:List Tb} {w w':World} {m:TM} {t:Array Value}
theorem Gt (w:World) (b:Nat) (o:Obj):w.grownBy (w.putObj b o) (some b):=GK w b o
end
inductive V (Ty:Nat→Type) where
 | int (k:IntKind) (n:Int)
 | bool (b:Bool)
 | str (s:ByteArray)
 | nilp
 | nils
 | nilm
 | nilf
 | nili
 | ptr (i off:Nat)
 | ept (cs:List (V Ty)) (off:Nat)
 | rpt (k i j off:Nat)
 | lst (k:Nat) (l:List (Ty k))
 | hdr (k i:Nat)
 | mp (i:Nat)
 | bsl (i n:Nat)
 | fn (f:FuncId) (first cap:List (V Ty))
 | ifc (t:TypeId) (x:V Ty)
 | agg (cs:List (V Ty))
 | arr (k:Nat) (l:List (Ty k))
 | tup (xs:List (V Ty))
 | undef
structure GA where
 b:Nat
 n:Nat
 c:Nat
 nl:Bool
abbrev GE:=Nat→GA
def An:Nat:=1000000000
def NS:Nat:=1000000001
def Zi (f:FuncId) (as bs:List Value):Value :=
 if f=An then(match bs with
  | [.map (some b)]=>.func (.yield b) #[] #[]
  | _=>.nilFunc)
 else if f=NS then(match as with
  | [.int .i64 n]=>if n<0 then .nilFunc else .func (.func n.toNat) #[] #[]
  | _=>.nilFunc)
 else .func (.func f) as.toArray bs.toArray
theorem Nj {f:FuncId} (h:Nat.blt f An=true):f≠An:=by
 intro hh
 subst hh
 exact Nat.not_succ_le_self _ (Zaf h)
theorem PA {f:FuncId} (h:Nat.blt f An=true) (as bs:List Value):Zi f as bs=.func (.func f) as.toArray bs.toArray:=by
 have h:=Zaf h
 unfold Zi
 have h1 : ¬ f=An:=by
  intro hh
  subst hh
  exact Nat.not_succ_le_self _ h
 have h2 : ¬ f=NS:=by
  intro hh
  subst hh
  exact absurd h (by decide)
 rw [if_neg h1,if_neg h2]
theorem XZ (f:FuncId) (as bs:List Value):Zi f as bs=.nilFunc∨∃ x y z,Zi f as bs=.func x y z:=by
 unfold Zi
 split
 · split
   · exact .inr ⟨_,_,_,rfl⟩
   · exact .inl rfl
 · split
   · split
     · split
       · exact .inl rfl
       · exact .inr ⟨_,_,_,rfl⟩
     · exact .inl rfl
   · exact .inr ⟨_,_,_,rfl⟩
structure LI where
 n:Nat
 ps:Array Tmp
 assign:Code
 body:Code
class RFs where
 rf:Nat→LI
 /-- functions that are data,by what they take -/
 cand:List TypeId→List FuncId
 /-- what is known of the first blocks: package variables of the library -/
 gl:World→Prop
 gn:Nat
 gsz:∀ w,gl w→gn≤w.heap.size
 gst:∀ w w':World,gl w→(∀ b,b<gn→w'.heap[b]? = w.heap[b]?)→gl w'
class UM (Ty:Nat→Type) where
 ag:Nat→Bool
 isK:Nat→Bool
 kv:(k:Nat)→Ty k→Value
 keq:(k:Nat)→Ty k→Ty k→Bool
 b8:Nat
 str:List (Ty b8)→ByteArray
 bts:ByteArray→List (Ty b8)
def O1 (s:ByteArray):List Int:=s.data.toList.map fun b=>((b.toNat:Nat):Int)
class UML (Ty:Nat→Type) [∀ k,Rep (Ty k)] [UM Ty]:Prop where
 inj:∀ (k:Nat)(a b:Ty k),UM.isK Ty k=true→UM.kv k a=UM.kv k b→a=b
 eq_iff:∀ (k:Nat)(a b:Ty k),UM.isK Ty k=true→(UM.keq k a b=true↔a=b)
 kv_rep:∀ (k:Nat)(h:Ad)(x:Ty k)(us:List Value),UM.isK Ty k=true→rep h x us→if UM.ag Ty k=true then UM.kv k x=.agg us.toArray else us=[UM.kv k x]
 bts_rep:∀ (h:Ad)(s:ByteArray),Ar h (UM.bts (Ty:=Ty) s) ((O1 s).map (.int .u8))
 bts_len:∀ (s:ByteArray),(UM.bts (Ty:=Ty) s).length=s.size
 str_rep:∀ (h:Ad)(l:List (Ty (UM.b8 Ty)))(us:List Value),Ar h l us→∃ ns:List Int,us=ns.map (.int .u8)∧UM.str l=⟨(ns.map fun n=>UInt8.ofNat n.toNat).toArray⟩
 b8_sz:Rep.sz (Ty (UM.b8 Ty))=1
@[reducible] def Te {Ty:Nat→Type} [∀ k,Rep (Ty k)] [UM Ty] [UML Ty] {k:Nat} (hk:UM.isK Ty k=true):KRep (Ty k):=⟨UM.kv k,fun h=>UML.inj k _ _ hk h⟩
@[reducible] def Ru (Ty:Nat→Type) [∀ k,Rep (Ty k)] [UM Ty] (v:Nat):VRep (Ty v):=⟨fun h x u=>if UM.ag Ty v=true then ∃ us,u=.agg us.toArray∧rep h x us else rep h x [u],fun {h h' x u} hle H=>by
  by_cases hag:UM.ag Ty v=true
  · simp only [hag,if_true] at H ⊢
    obtain⟨us,e,hr⟩:=H; exact⟨us,e,Rep.mono hle hr⟩
  · simp only [hag] at H ⊢
    exact Rep.mono hle H⟩
@[reducible] def AcG {Ty:Nat→Type} [∀ k,Rep (Ty k)] [UM Ty] [UML Ty] {k:Nat} (hk:UM.isK Ty k=true):DecidableEq (Ty k):=fun a b=>decidable_of_iff (UM.keq k a b=true) (UML.eq_iff k a b hk)
class UMP (Ty:Nat→Type) [∀ k,Rep (Ty k)] [UM Ty] [UML Ty] (P:Program):Prop where
 kl:∀ (k:Nat)(hk:UM.isK Ty k=true),@KL P k (Ty k) (Te hk)
def GL {α β:Type} (q:α→α→Bool):List (α×β)→α→Option β
 | [],_=>none
 | p::r,k=>bif q p.1 k then some p.2 else GL q r k
def Dm {α β:Type} (q:α→α→Bool) (l:List (α×β)) (k:α):Bool:=(GL q l k).isSome
def AN {α β:Type} (q:α→α→Bool) (l:List (α×β)) (k:α) (z:β):β:=(GL q l k).getD z
def Fe {α β:Type} (q:α→α→Bool):List (α×β)→α→β→List (α×β)
 | [],k,x=>[(k,x)]
 | p::r,k,x=>bif q p.1 k then(k,x)::r else p::Fe q r k x
section
variable {Ty:Nat→Type} [rT:∀ k,Rep (Ty k)] [UM Ty] [UML Ty] {k:Nat} {β:Type}
theorem Nk (hk:UM.isK Ty k=true) (x:Ty k):∀ (l:List (Ty k×β)),@IY (Ty k) β (AcG hk) l x=GL (UM.keq k) l x
 | []=>rfl
 | p::r=>by
  unfold IY GL
  by_cases hp:p.1=x
  · rw [if_pos hp,(UML.eq_iff k _ _ hk).2 hp]; rfl
  · have:UM.keq k p.1 x=false:=by
     cases hq:UM.keq k p.1 x with
     | false=>rfl
     | true=>exact absurd ((UML.eq_iff k _ _ hk).1 hq) hp
    rw [if_neg hp,this,Nk hk x r]; rfl
theorem Vf (hk:UM.isK Ty k=true) (x:Ty k) (v:β):∀ (l:List (Ty k×β)),@Tc (Ty k) β (AcG hk) l x v=Fe (UM.keq k) l x v
 | []=>rfl
 | p::r=>by
  unfold Tc Fe
  by_cases hp:p.1=x
  · rw [if_pos hp,(UML.eq_iff k _ _ hk).2 hp]; rfl
  · have:UM.keq k p.1 x=false:=by
     cases hq:UM.keq k p.1 x with
     | false=>rfl
     | true=>exact absurd ((UML.eq_iff k _ _ hk).1 hq) hp
    rw [if_neg hp,this,Vf hk x v r]; rfl
end
section
variable {Ty:Nat→Type} [rT:∀ k,Rep (Ty k)]
mutual
def V.den (g:GE) (h:Ad):V Ty→Value→Prop
 | .int k n,v=>v=.int k n
 | .bool b,v=>v=.bool b
 | .str s,v=>v=.string s
 | .nilp,v=>v=.pointer none
 | .nils,v=>v=.slice none 0 0
 | .nilm,v=>v=.map none
 | .nilf,v=>v=.nilFunc
 | .nili,v=>v=.nilIface
 | .ptr i off,v=>v=.pointer (some ⟨(g i).b,off,none⟩)
 | .ept cs off,v=>∃ b o us,v=.pointer (some ⟨b,o+off,none⟩)∧V.dens g h cs us∧(∀ u∈us,u.oneCell' = true)∧∀ (j:Nat)(u:Value),us[j]? = some u→h b (o+j)=some u
 | .rpt k i j off,v=>v=.pointer (some ⟨(g i).b,j*Rep.sz (Ty k)+off,none⟩)
 | .lst _ l,v=>∃ a c,v=.slice a l.length c∧F0 h a c l
 | .hdr _ i,v=>v=if (g i).nl then .slice none 0 0 else .slice (some ⟨(g i).b,0,none⟩) (g i).n (g i).c
 | .mp i,v=>v=.map (some (g i).b)
 | .bsl i n,v=>v=.slice (some ⟨(g i).b,0,none⟩) n n
 | .fn f first cap,v=>∃ as bs,v=Zi f as bs∧V.dens g h first as∧V.dens g h cap bs
 | .ifc t x,v=>∃ u,v=.iface t u∧V.den g h x u
 | .agg cs,v=>∃ us,v=.agg us.toArray∧V.dens g h cs us
 | .arr _ l,v=>∃ us,v=.agg us.toArray∧Ar h l us
 | .tup xs,v=>∃ us,v=.tuple us.toArray∧V.dens g h xs us
 | .undef,v=>v=Go.undef
def V.dens (g:GE) (h:Ad):List (V Ty)→List Value→Prop
 | [],us=>us=[]
 | c::cs,us=>∃ u us',us=u::us'∧V.den g h c u∧V.dens g h cs us'
end
mutual
theorem V.den_mono {g:GE} {h h':Ad} (hle:Ad.le h h'):∀ (x:V Ty)(v:Value),x.den g h v→x.den g h' v
 | .int _ _,_,H | .bool _,_,H | .str _,_,H | .nilp,_,H | .nils,_,H | .nilm,_,H | .nilf,_,H | .nili,_,H | .ptr _ _,_,H | .rpt _ _ _ _,_,H | .mp _,_,H | .bsl _ _,_,H | .undef,_,H=>H
 | .hdr _ _,_,H=>H
 | .ept cs off,v,H=>by
  unfold V.den at H ⊢
  obtain⟨b,o,us,h1,h2,h4,h3⟩:=H
  exact⟨b,o,us,h1,V.dens_mono hle cs us h2,h4,fun j u hu=>hle _ _ _ (h3 j u hu)⟩
 | .lst k l,v,H=>by
  unfold V.den at H ⊢
  obtain⟨a,c,h1,h2⟩:=H
  exact⟨a,c,h1,h2.mono hle⟩
 | .fn f first cap,v,H=>by
  unfold V.den at H ⊢
  obtain⟨as,bs,h1,h2,h3⟩:=H
  exact⟨as,bs,h1,V.dens_mono hle first as h2,V.dens_mono hle cap bs h3⟩
 | .ifc t x,v,H=>by
  unfold V.den at H ⊢
  obtain⟨u,h1,h2⟩:=H
  exact⟨u,h1,V.den_mono hle x u h2⟩
 | .agg cs,v,H=>by
  unfold V.den at H ⊢
  obtain⟨us,h1,h2⟩:=H
  exact⟨us,h1,V.dens_mono hle cs us h2⟩
 | .arr k l,v,H=>by
  unfold V.den at H ⊢
  obtain⟨us,h1,h2⟩:=H
  exact⟨us,h1,h2.mono hle⟩
 | .tup cs,v,H=>by
  unfold V.den at H ⊢
  obtain⟨us,h1,h2⟩:=H
  exact⟨us,h1,V.dens_mono hle cs us h2⟩
theorem V.dens_mono {g:GE} {h h':Ad} (hle:Ad.le h h'):∀ (xs:List (V Ty))(us:List Value),V.dens g h xs us→V.dens g h' xs us
 | [],_,H=>H
 | c::cs,us,H=>by
  unfold V.dens at H ⊢
  obtain⟨u,us',h1,h2,h3⟩:=H
  exact⟨u,us',h1,V.den_mono hle c u h2,V.dens_mono hle cs us' h3⟩
end
end
end Go.Proofs.YtkpgggfibljflaaGreatDoor
namespace Go.Proofs.YtkpgggfibljflaaGreatDoor
open Go Go.RowKit
open Rep (rep)
section
variable {Ty:Nat→Type}
mutual
/-- Are all its numbers of memory such? -/
def V.okB (p:Nat→Bool):V Ty→Bool
 | .ptr i _ | .rpt _ i _ _ | .hdr _ i | .mp i | .bsl i _=>p i
 | .ept cs _ | .agg cs | .tup cs=>V.oksB p cs
 | .fn _ a b=>V.oksB p a && V.oksB p b
 | .ifc _ x=>V.okB p x
 | _=>true
def V.oksB (p:Nat→Bool):List (V Ty)→Bool
 | []=>true
 | c::cs=>V.okB p c && V.oksB p cs
end
mutual
def V.ren (f:Nat→Nat):V Ty→V Ty
 | .ptr i o=>.ptr (f i) o
 | .rpt k i j o=>.rpt k (f i) j o
 | .hdr k i=>.hdr k (f i)
 | .mp i=>.mp (f i)
 | .bsl i n=>.bsl (f i) n
 | .ept cs o=>.ept (V.rens f cs) o
 | .agg cs=>.agg (V.rens f cs)
 | .tup cs=>.tup (V.rens f cs)
 | .fn n a b=>.fn n (V.rens f a) (V.rens f b)
 | .ifc t x=>.ifc t (V.ren f x)
 | x=>x
def V.rens (f:Nat→Nat):List (V Ty)→List (V Ty)
 | []=>[]
 | c::cs=>V.ren f c::V.rens f cs
end
inductive A7 (Ty:Nat→Type) where
 | blk (t:Nat) (vs:List (V Ty))
 | row (k:Nat) (l:List (Ty k))
 | arr (k:Nat) (l:List (Ty k))
 | mp (k v:Nat) (l:List (Ty k×Ty v))
 | lp (st:LoopState) (pend:Option Code) (tag:Nat) (ks:List Nat) (vs:List (V Ty))
def A7.okB (p:Nat→Bool):A7 Ty→Bool
 | .blk _ vs=>V.oksB p vs
 | .row _ _ | .arr _ _ | .mp _ _ _=>true
 | .lp _ _ _ _ vs=>V.oksB p vs
def A7.ren (f:Nat→Nat):A7 Ty→A7 Ty
 | .blk t vs=>.blk t (V.rens f vs)
 | .row k l=>.row k l
 | .arr k l=>.arr k l
 | .mp k v l=>.mp k v l
 | .lp s e t ks vs=>.lp s e t ks (V.rens f vs)
variable [rT:∀ k,Rep (Ty k)]
mutual
theorem V.den_ren {g g':GE} {h:Ad} {p:Nat→Bool} {f:Nat→Nat} (hg:∀ i,p i=true→g' (f i)=g i):∀ (x:V Ty)(v:Value),x.okB p=true→x.den g h v→(x.ren f).den g' h v
 | .int _ _,_,_,H | .bool _,_,_,H | .str _,_,_,H | .nilp,_,_,H | .nils,_,_,H | .nilm,_,_,H | .nilf,_,_,H | .nili,_,_,H | .undef,_,_,H=>H
 | .lst _ _,_,_,H | .arr _ _,_,_,H=>H
 | .ptr i o,v,hp,H=>by
  unfold V.ren
  unfold V.den at H ⊢
  rw [hg i (by unfold V.okB at hp; exact hp)]; exact H
 | .rpt k i j o,v,hp,H=>by
  unfold V.ren
  unfold V.den at H ⊢
  rw [hg i (by unfold V.okB at hp; exact hp)]; exact H
 | .hdr k i,v,hp,H=>by
  unfold V.ren
  unfold V.den at H ⊢
  rw [hg i (by unfold V.okB at hp; exact hp)]; exact H
 | .bsl i n,v,hp,H=>by
  unfold V.ren
  unfold V.den at H ⊢
  rw [hg i (by unfold V.okB at hp; exact hp)]; exact H
 | .mp i,v,hp,H=>by
  unfold V.ren
  unfold V.den at H ⊢
  rw [hg i (by unfold V.okB at hp; exact hp)]; exact H
 | .ept cs o,v,hp,H=>by
  unfold V.ren
  unfold V.den at H ⊢
  unfold V.okB at hp
  obtain⟨b,a,us,h1,h2,h3⟩:=H
  exact⟨b,a,us,h1,V.dens_ren hg cs us hp h2,h3⟩
 | .agg cs,v,hp,H=>by
  unfold V.ren
  unfold V.den at H ⊢
  unfold V.okB at hp
  obtain⟨us,h1,h2⟩:=H
  exact⟨us,h1,V.dens_ren hg cs us hp h2⟩
 | .tup cs,v,hp,H=>by
  unfold V.ren
  unfold V.den at H ⊢
  unfold V.okB at hp
  obtain⟨us,h1,h2⟩:=H
  exact⟨us,h1,V.dens_ren hg cs us hp h2⟩
 | .fn n a b,v,hp,H=>by
  unfold V.ren
  unfold V.den at H ⊢
  unfold V.okB at hp
  simp only [Zax] at hp
  obtain⟨as,bs,h1,h2,h3⟩:=H
  exact⟨as,bs,h1,V.dens_ren hg a as hp.1 h2,V.dens_ren hg b bs hp.2 h3⟩
 | .ifc t x,v,hp,H=>by
  unfold V.ren
  unfold V.den at H ⊢
  unfold V.okB at hp
  obtain⟨u,h1,h2⟩:=H
  exact⟨u,h1,V.den_ren hg x u hp h2⟩
theorem V.dens_ren {g g':GE} {h:Ad} {p:Nat→Bool} {f:Nat→Nat} (hg:∀ i,p i=true→g' (f i)=g i):∀ (xs:List (V Ty))(us:List Value),V.oksB p xs=true→V.dens g h xs us→V.dens g' h (V.rens f xs) us
 | [],_,_,H=>H
 | c::cs,us,hp,H=>by
  unfold V.rens
  unfold V.dens at H ⊢
  unfold V.oksB at hp
  simp only [Zax] at hp
  obtain⟨u,us',h1,h2,h3⟩:=H
  exact⟨u,us',h1,V.den_ren hg c u hp.1 h2,V.dens_ren hg cs us' hp.2 h3⟩
end
omit rT in
mutual
theorem V.ren_id:∀ (x:V Ty),x.ren id=x
 | .int _ _ | .bool _ | .str _ | .nilp | .nils | .nilm | .nilf | .nili | .undef | .lst _ _ | .arr _ _ | .ptr _ _ | .rpt _ _ _ _ | .hdr _ _ | .mp _ | .bsl _ _=>by simp [V.ren]
 | .ept cs o=>by simp [V.ren,V.rens_id cs]
 | .agg cs=>by simp [V.ren,V.rens_id cs]
 | .tup cs=>by simp [V.ren,V.rens_id cs]
 | .fn n a b=>by simp [V.ren,V.rens_id a,V.rens_id b]
 | .ifc t x=>by simp [V.ren,V.ren_id x]
theorem V.rens_id:∀ (xs:List (V Ty)),V.rens id xs=xs
 | []=>by simp [V.rens]
 | c::cs=>by simp [V.rens,V.ren_id c,V.rens_id cs]
end
theorem V.den_agree {g g':GE} {h:Ad} {p:Nat→Bool} (hg:∀ i,p i=true→g' i=g i) {x:V Ty} {v:Value} (hp:x.okB p=true) (H:x.den g h v):x.den g' h v:=by
 have:=V.den_ren (f:=id) hg x v hp H
 rwa [V.ren_id] at this
theorem V.dens_agree {g g':GE} {h:Ad} {p:Nat→Bool} (hg:∀ i,p i=true→g' i=g i) {xs:List (V Ty)} {us:List Value} (hp:V.oksB p xs=true) (H:V.dens g h xs us):V.dens g' h xs us:=by
 have:=V.dens_ren (f:=id) hg xs us hp H
 rwa [V.rens_id] at this
omit rT in
mutual
theorem V.okB_imp {p q:Nat→Bool} (hpq:∀ i,p i=true→q i=true):∀ (x:V Ty),x.okB p=true→x.okB q=true
 | .int _ _,_ | .bool _,_ | .str _,_ | .nilp,_ | .nils,_ | .nilm,_ | .nilf,_ | .nili,_ | .undef,_ | .lst _ _,_ | .arr _ _,_=>by simp [V.okB]
 | .ptr i _,h | .rpt _ i _ _,h | .hdr _ i,h | .mp i,h | .bsl i _,h=>by unfold V.okB at *; exact hpq i h
 | .ept cs o,h=>by unfold V.okB at *; exact V.oksB_imp hpq cs h
 | .agg cs,h=>by unfold V.okB at *; exact V.oksB_imp hpq cs h
 | .tup cs,h=>by unfold V.okB at *; exact V.oksB_imp hpq cs h
 | .fn n a b,h=>by
  unfold V.okB at *
  simp only [Zax] at *
  exact⟨V.oksB_imp hpq a h.1,V.oksB_imp hpq b h.2⟩
 | .ifc t x,h=>by unfold V.okB at *; exact V.okB_imp hpq x h
theorem V.oksB_imp {p q:Nat→Bool} (hpq:∀ i,p i=true→q i=true):∀ (xs:List (V Ty)),V.oksB p xs=true→V.oksB q xs=true
 | [],_=>by simp [V.oksB]
 | c::cs,h=>by
  unfold V.oksB at *
  simp only [Zax] at *
  exact⟨V.okB_imp hpq c h.1,V.oksB_imp hpq cs h.2⟩
end
omit rT in
mutual
theorem V.okB_ren {p q:Nat→Bool} {f:Nat→Nat} (hf:∀ i,p i=true→q (f i)=true):∀ (x:V Ty),x.okB p=true→(x.ren f).okB q=true
 | .int _ _,_ | .bool _,_ | .str _,_ | .nilp,_ | .nils,_ | .nilm,_ | .nilf,_ | .nili,_ | .undef,_ | .lst _ _,_ | .arr _ _,_=>by simp [V.ren,V.okB]
 | .ptr i _,h | .rpt _ i _ _,h | .hdr _ i,h | .mp i,h | .bsl i _,h=>by unfold V.ren; unfold V.okB at *; exact hf i h
 | .ept cs o,h=>by unfold V.ren; unfold V.okB at *; exact V.oksB_ren hf cs h
 | .agg cs,h=>by unfold V.ren; unfold V.okB at *; exact V.oksB_ren hf cs h
 | .tup cs,h=>by unfold V.ren; unfold V.okB at *; exact V.oksB_ren hf cs h
 | .fn n a b,h=>by
  unfold V.ren
  unfold V.okB at *
  simp only [Zax] at *
  exact⟨V.oksB_ren hf a h.1,V.oksB_ren hf b h.2⟩
 | .ifc t x,h=>by unfold V.ren; unfold V.okB at *; exact V.okB_ren hf x h
theorem V.oksB_ren {p q:Nat→Bool} {f:Nat→Nat} (hf:∀ i,p i=true→q (f i)=true):∀ (xs:List (V Ty)),V.oksB p xs=true→V.oksB q (V.rens f xs)=true
 | [],_=>by simp [V.rens,V.oksB]
 | c::cs,h=>by
  unfold V.rens
  unfold V.oksB at *
  simp only [Zax] at *
  exact⟨V.okB_ren hf c h.1,V.oksB_ren hf cs h.2⟩
end
omit rT in
theorem A7.okB_imp {p q:Nat→Bool} (hpq:∀ i,p i=true→q i=true) {c:A7 Ty} (h:c.okB p=true):c.okB q=true:=by
 cases c with
 | blk t vs=>exact V.oksB_imp hpq vs h
 | row k l=>rfl
 | arr k l=>rfl
 | mp k v l=>rfl
 | lp s e t ks vs=>exact V.oksB_imp hpq vs h
omit rT in
theorem A7.okB_ren {p q:Nat→Bool} {f:Nat→Nat} (hf:∀ i,p i=true→q (f i)=true) {c:A7 Ty} (h:c.okB p=true):(c.ren f).okB q=true:=by
 cases c with
 | blk t vs=>exact V.oksB_ren hf vs h
 | row k l=>rfl
 | arr k l=>rfl
 | mp k v l=>rfl
 | lp s e t ks vs=>exact V.oksB_ren hf vs h
theorem V.dens_len {g:GE} {h:Ad}:∀ {xs:List (V Ty)} {us:List Value},V.dens g h xs us→us.length=xs.length
 | [],us,H=>by unfold V.dens at H; subst H; rfl
 | c::cs,us,H=>by
  unfold V.dens at H
  obtain⟨u,us',rfl,_,h3⟩:=H
  simp [V.dens_len h3]
theorem V.dens_get {g:GE} {h:Ad}:∀ {xs:List (V Ty)} {us:List Value} {j:Nat} {x:V Ty},V.dens g h xs us→xs[j]? = some x→∃ u,us[j]? = some u∧x.den g h u
 | [],_,_,_,_,hx=>by simp at hx
 | c::cs,us,j,x,H,hx=>by
  unfold V.dens at H
  obtain⟨u,us',rfl,h2,h3⟩:=H
  cases j with
  | zero=>simp at hx; subst hx; exact⟨u,rfl,h2⟩
  | succ j=>simpa using V.dens_get h3 (by simpa using hx)
theorem V.dens_append {g:GE} {h:Ad}:∀ {xs ys:List (V Ty)} {us vs:List Value},V.dens g h xs us→V.dens g h ys vs→V.dens g h (xs++ys) (us++vs)
 | [],ys,us,vs,H,H2=>by unfold V.dens at H; subst H; exact H2
 | c::cs,ys,us,vs,H,H2=>by
  unfold V.dens at H
  obtain⟨u,us',rfl,h2,h3⟩:=H
  rw [ZaP,ZaP]
  unfold V.dens
  exact⟨u,_,rfl,h2,V.dens_append h3 H2⟩
theorem V.dens_take {g:GE} {h:Ad}:∀ {xs:List (V Ty)} {us:List Value} (n:Nat),V.dens g h xs us→V.dens g h (xs.take n) (us.take n)
 | [],us,n,H=>by unfold V.dens at H; subst H; simp [V.dens]
 | c::cs,us,n,H=>by
  unfold V.dens at H
  obtain⟨u,us',rfl,h2,h3⟩:=H
  cases n with
  | zero=>simp [V.dens]
  | succ n =>
   rw [List.take_succ_cons,List.take_succ_cons]
   unfold V.dens
   exact⟨u,_,rfl,h2,V.dens_take n h3⟩
theorem V.dens_drop {g:GE} {h:Ad}:∀ {xs:List (V Ty)} {us:List Value} (n:Nat),V.dens g h xs us→V.dens g h (xs.drop n) (us.drop n)
 | [],us,n,H=>by unfold V.dens at H; subst H; simp [V.dens]
 | c::cs,us,n,H=>by
  cases n with
  | zero=>exact H
  | succ n =>
   unfold V.dens at H
   obtain⟨u,us',rfl,h2,h3⟩:=H
   simpa using V.dens_drop n h3
end
end Go.Proofs.YtkpgggfibljflaaGreatDoor
namespace Go.Proofs.YtkpgggfibljflaaGreatDoor
open Go Go.RowKit
open Rep (rep)
section
variable {Ty:Nat→Type} [rT:∀ k,Rep (Ty k)] [RFs] [UM Ty] [UML Ty]
def Se (h:Ad) (es:List MapEntry) (c k v:Nat) (l:List (Ty k×Ty v)):Prop:=∃ hk:UM.isK Ty k=true,@Ni (Ty k) (Ty v) (Te hk) (Ru Ty v) h es c l
theorem Se.mono {h h':Ad} {es:List MapEntry} {c k v:Nat} {l:List (Ty k×Ty v)} (hle:Ad.le h h') (H:Se h es c k v l):Se h' es c k v l:=by
 obtain⟨hk,H⟩:=H
 exact⟨hk,@Ni.mono (Ty k) (Ty v) (Te hk) (Ru Ty v) h h' es c l hle H⟩
def AcH (g:GE) (h:Ad) (t:Array Value) (ks:List Nat) (vs:List (V Ty)):Prop:=ks.length=vs.length∧∃ us,V.dens g h vs us∧∀ (j k:Nat)(u:Value),ks[j]? = some k→us[j]? = some u→t[k]? = some u
theorem AcH.mono {g:GE} {h h':Ad} {t:Array Value} {ks:List Nat} {vs:List (V Ty)} (hle:Ad.le h h') (H:AcH g h t ks vs):AcH g h' t ks vs:=by
 obtain⟨h1,us,h2,h3⟩:=H
 exact⟨h1,us,V.dens_mono hle vs us h2,h3⟩
theorem AcH.ren {g g':GE} {h:Ad} {t:Array Value} {ks:List Nat} {vs:List (V Ty)} {p:Nat→Bool} {f:Nat→Nat} (hg:∀ i,p i=true→g' (f i)=g i) (hp:V.oksB p vs=true) (H:AcH g h t ks vs):AcH g' h t ks (V.rens f vs):=by
 obtain⟨h1,us,h2,h3⟩:=H
 refine⟨?_,us,V.dens_ren hg vs us hp h2,h3⟩
 rw [h1,← V.dens_len h2,← V.dens_len (V.dens_ren hg vs us hp h2)]
def B2 (h:Ad) (g:GE) (a:GA) (w:World):A7 Ty→Prop
 | .blk t vs=>a.nl=false∧∃ us T,w.heap[a.b]? = some (.cells us.toArray T (0,0))∧V.dens g h vs us∧(∀ u∈us,u.oneCell' = true)∧(t=0∨T=t)
 | .row k l=>l.length=a.n∧if a.nl then a.n=0 else ∃ us sp,w.heap[a.b]? = some (.cells (us++sp).toArray k (0,0))∧Ar h l us∧(us++sp).length=a.c*Rep.sz (Ty k)∧a.n≤a.c∧a.c≤maxLen
 | .arr k l=>a.nl=false∧∃ us T,w.heap[a.b]? = some (.cells us.toArray T (0,0))∧Ar h l us
 | .mp k v l=>a.nl=false∧∃ es c,w.heap[a.b]? = some (.map es c)∧Se h es.toList c k v l
 | .lp st pend tag ks vs=>a.nl=false∧∃ r,w.heap[a.b]? = some (.loop r)∧r.state=st∧r.pending=pend∧r.params=(RFs.rf tag).ps∧r.assign=(RFs.rf tag).assign∧r.body=(RFs.rf tag).body∧r.tmps.size=(RFs.rf tag).n∧AcH g h r.tmps ks vs
abbrev Mo (Ty:Nat→Type):=Nat→Option (A7 Ty)
def Mo.put (M:Mo Ty) (i:Nat) (c:Option (A7 Ty)):Mo Ty:=fun j=>if j=i then c else M j
structure Ag (F:Fr) (h:Ad) (g:GE) (M:Mo Ty) (w:World):Prop where
 below:Below F.w.heap.size F.w w
 le:Ad.le F.h h
 old:∀ b o x,h b o=some x→F.h b o=some x∨F.w.heap.size≤b
 has:Ack h w
 cell:∀ i c,M i=some c→B2 h g (g i) w c
 own:∀ i c,M i=some c→(g i).nl=false→F.w.heap.size≤(g i).b∧(g i).b<w.heap.size∧F.X (g i).b=none∧∀ o,h (g i).b o=none
 inj:∀ i j c d,M i=some c→M j=some d→(g i).nl=false→(g j).nl=false→(g i).b=(g j).b→i=j
 ext:∀ b x,F.X b=some x→F.w.heap.size≤b∧w.heap[b]? = some x∧∀ o,h b o=none
 glo:RFs.gl F.w
variable {F:Fr} {h h':Ad} {g g':GE} {M M':Mo Ty} {w w':World}
theorem B2.mono {a:GA} {c:A7 Ty} (hle:Ad.le h h') (H:B2 h g a w c):B2 h' g a w c:=by
 cases c with
 | blk t vs=>obtain⟨h0,us,T,h1,h2,h3⟩:=H; exact⟨h0,us,T,h1,V.dens_mono hle vs us h2,h3⟩
 | row k l =>
  obtain⟨h0,h1⟩:=H
  refine⟨h0,?_⟩
  split at h1
  · rename_i hn; rw [if_pos hn]; exact h1
  · rename_i hn; rw [if_neg hn]; obtain⟨us,sp,q1,q2,q3⟩:=h1; exact⟨us,sp,q1,q2.mono hle,q3⟩
 | arr k l=>obtain⟨h0,us,T,h1,h2⟩:=H; exact⟨h0,us,T,h1,h2.mono hle⟩
 | mp k v l=>obtain⟨h0,es,c,h1,h2⟩:=H; exact⟨h0,es,c,h1,h2.mono hle⟩
 | lp st e tag ks vs=>obtain⟨h0,r,h1,h2,h3,h4,h5,h6,h7,h8⟩:=H; exact⟨h0,r,h1,h2,h3,h4,h5,h6,h7,h8.mono hle⟩
theorem B2.agree {a:GA} {c:A7 Ty} {p:Nat→Bool} (hg:∀ i,p i=true→g' i=g i) (hp:c.okB p=true) (H:B2 h g a w c):B2 h g' a w c:=by
 cases c with
 | blk t vs=>obtain⟨h0,us,T,h1,h2,h3⟩:=H; exact⟨h0,us,T,h1,V.dens_agree hg hp h2,h3⟩
 | row k l=>exact H
 | arr k l=>exact H
 | mp k v l=>exact H
 | lp st e tag ks vs =>
  obtain⟨h0,r,h1,h2,h3,h4,h5,h6,h7,h8⟩:=H
  have:=h8.ren (g':=g') (f:=id) hg hp
  rw [V.rens_id] at this
  exact⟨h0,r,h1,h2,h3,h4,h5,h6,h7,this⟩
theorem B2.block {a:GA} {c:A7 Ty} (hb:a.nl=false→w'.heap[a.b]? = w.heap[a.b]?) (H:B2 h g a w c):B2 h g a w' c:=by
 cases c with
 | blk t vs=>obtain⟨h0,us,T,h1,h2,h3⟩:=H; exact⟨h0,us,T,by rw [hb h0]; exact h1,h2,h3⟩
 | row k l =>
  obtain⟨h0,h1⟩:=H
  refine⟨h0,?_⟩
  split at h1
  · rename_i hn; rw [if_pos hn]; exact h1
  · rename_i hn; rw [if_neg hn]; obtain⟨us,sp,q1,q2⟩:=h1; exact⟨us,sp,by rw [hb (by simpa using hn)]; exact q1,q2⟩
 | arr k l=>obtain⟨h0,us,T,h1,h2⟩:=H; exact⟨h0,us,T,by rw [hb h0]; exact h1,h2⟩
 | mp k v l=>obtain⟨h0,es,c,h1,h2⟩:=H; exact⟨h0,es,c,by rw [hb h0]; exact h1,h2⟩
 | lp st e tag ks vs=>obtain⟨h0,r,h1,h2⟩:=H; exact⟨h0,r,by rw [hb h0]; exact h1,h2⟩
theorem B2.renC {a:GA} {c:A7 Ty} {p:Nat→Bool} {f:Nat→Nat} (hg:∀ i,p i=true→g' (f i)=g i) (hp:c.okB p=true) (H:B2 h g a w c):B2 h g' a w (c.ren f):=by
 cases c with
 | blk t vs=>obtain⟨h0,us,T,h1,h2,h3⟩:=H; exact⟨h0,us,T,h1,V.dens_ren hg vs us hp h2,h3⟩
 | row k l=>exact H
 | arr k l=>exact H
 | mp k v l=>exact H
 | lp st e tag ks vs=>obtain⟨h0,r,h1,h2,h3,h4,h5,h6,h7,h8⟩:=H; exact⟨h0,r,h1,h2,h3,h4,h5,h6,h7,h8.ren hg hp⟩
theorem Ag.size (hm:Ag F h g M w):F.w.heap.size≤w.heap.size:=hm.below.size
theorem Ag.begin (h:Ad) (w:World) (g:GE) (hh:Ack h w) (hgl:RFs.gl w):Ag ⟨w,h,Ad0⟩ h g (fun _=>none:Mo Ty) w :=
 ⟨Below.refl _ _,Ad.le_refl _,fun _ _ _ hx=>.inl hx,hh,(by simp),(by simp),(by simp),(by simp [Ad0]),hgl⟩
theorem Ag.gl {F:Fr} {h:Ad} {g:GE} {M:Mo Ty} {w:World} (hm:Ag F h g M w):RFs.gl w :=
 RFs.gst F.w w hm.glo fun b hb=>hm.below.block b (Zai hb (RFs.gsz _ hm.glo))
theorem Ag.lt {b o:Nat} {x:Value} (hm:Ag F h g M w) (hx:h b o=some x):b<w.heap.size:=(hm.has _ _ _ hx).1
theorem Ag.grow (hm:Ag F h g M w) (hg:w.grownBy w' none):Ag F h g M w':=by
 have hb:∀ b,b<w.heap.size→w'.heap[b]? = w.heap[b]?:=fun b hb=>hg.block b hb (by simp)
 refine⟨hm.below.trans ⟨hg.os,hg.tape,hg.output,hg.size,fun k hk=>hb k (Zai hk hm.size)⟩,hm.le,hm.old,?_,?_,?_,hm.inj,?_,hm.glo⟩
 · intro b o v hv
   obtain⟨h1,h2⟩:=hm.has b o v hv
   exact⟨Zai h1 hg.size,by rw [Cd (hb b h1)]; exact h2⟩
 · exact fun i c hi=>(hm.cell i c hi).block fun hn=>hb _ (hm.own i c hi hn).2.1
 · intro i c hi hn
   obtain⟨h1,h2,h3⟩:=hm.own i c hi hn
   exact⟨h1,Zai h2 hg.size,h3⟩
 · intro b x hx
   obtain⟨h1,h2,h3⟩:=hm.ext b x hx
   exact⟨h1,by rw [hb b (Zag.1 h2).1]; exact h2,h3⟩
theorem Ag.drew (hm:Ag F h g M w):Ag F h g M w.drew:=hm.grow ⟨rfl,rfl,rfl,Zal _,fun _ _ _=>rfl⟩
theorem Ag.less (hm:Ag F h g M w) (hl:∀ i c,M' i=some c→M i=some c):Ag F h g M' w :=
 ⟨hm.below,hm.le,hm.old,hm.has,fun i c hi=>hm.cell i c (hl i c hi),fun i c hi=>hm.own i c (hl i c hi),fun i j c d hi hj=>hm.inj i j c d (hl i c hi) (hl j d hj),hm.ext,hm.glo⟩
theorem Ag.agree {p:Nat→Bool} (hm:Ag F h g M w) (hg:∀ i,p i=true→g' i=g i) (hM:∀ i c,M i=some c→p i=true∧c.okB p=true):Ag F h g' M w:=by
 refine⟨hm.below,hm.le,hm.old,hm.has,fun i c hi=>?_,fun i c hi=>?_,fun i j c d hi hj=>?_,hm.ext,hm.glo⟩
 · rw [hg i (hM i c hi).1]; exact(hm.cell i c hi).agree hg (hM i c hi).2
 · rw [hg i (hM i c hi).1]; exact hm.own i c hi
 · rw [hg i (hM i c hi).1,hg j (hM j d hj).1]; exact hm.inj i j c d hi hj
theorem Ag.newC {i:Nat} {c:A7 Ty} (hm:Ag F h g M w) (hi:M i=none) (hc:B2 h g (g i) w c)
  (ho:(g i).nl=false→F.w.heap.size≤(g i).b∧(g i).b<w.heap.size∧F.X (g i).b=none∧(∀ o,h (g i).b o=none)∧∀ j d,M j=some d→(g j).nl=false→(g j).b≠(g i).b):Ag F h g (M.put i (some c)) w:=by
 refine⟨hm.below,hm.le,hm.old,hm.has,fun j d hj=>?_,fun j d hj hn=>?_,fun j k d e hj hk hnj hnk hb=>?_,hm.ext,hm.glo⟩
 · unfold Mo.put at hj
   split at hj
   · rename_i hji; subst hji; cases hj; exact hc
   · exact hm.cell j d hj
 · unfold Mo.put at hj
   split at hj
   · rename_i hji; subst hji; obtain⟨h1,h2,h3,h4,_⟩:=ho hn; exact⟨h1,h2,h3,h4⟩
   · exact hm.own j d hj hn
 · unfold Mo.put at hj hk
   split at hj
   · rename_i hji
     split at hk
     · rename_i hki; rw [hji,hki]
     · subst hji; exact absurd hb.symm ((ho hnj).2.2.2.2 k e hk hnk)
   · split at hk
     · rename_i hki; subst hki; exact absurd hb ((ho hnk).2.2.2.2 j d hj hnj)
     · exact hm.inj j k d e hj hk hnj hnk hb
theorem Ag.new {i:Nat} {c:A7 Ty} (hm:Ag F h g M w) (hg:w.grownBy w' none) (hi:M i=none) (hb:w.heap.size≤(g i).b) (hb':(g i).b<w'.heap.size) (hc:B2 h g (g i) w' c):Ag F h g (M.put i (some c)) w':=by
 refine(hm.grow hg).newC hi hc fun _=>⟨ZaF hm.size hb,hb',?_,fun o=>?_,fun j d hj hn heq=>?_⟩
 · cases hx:F.X (g i).b with
   | none=>rfl
   | some x=>have:=(Zag.1 (hm.ext _ x hx).2.1).1; omega
 · cases hx:h (g i).b o with
   | none=>rfl
   | some x=>have:=hm.lt hx; omega
 · have:=(hm.own j d hj hn).2.1; omega
theorem Ag.set {i:Nat} {c c':A7 Ty} (hm:Ag F h g M w) (hi:M i=some c) (hn:(g i).nl=false) (hg:w.grownBy w' (some (g i).b)) (hc:B2 h g (g i) w' c'):Ag F h g (M.put i (some c')) w':=by
 obtain⟨o1,o2,o3,o4⟩:=hm.own i c hi hn
 have hb:∀ b,b<w.heap.size→b≠(g i).b→w'.heap[b]? = w.heap[b]?:=fun b hb hne=>hg.block b hb (by simp; exact hne)
 refine⟨hm.below.trans ⟨hg.os,hg.tape,hg.output,hg.size,fun k hk=>hb k (Zai hk hm.size) (by omega)⟩,hm.le,hm.old,?_,?_,?_,?_,?_,hm.glo⟩
 · intro b o v hv
   obtain⟨h1,h2⟩:=hm.has b o v hv
   have hne:b≠(g i).b:=fun hh=>by rw [hh,o4 o] at hv; cases hv
   exact⟨Zai h1 hg.size,by rw [Cd (hb b h1 hne)]; exact h2⟩
 · intro j d hj
   unfold Mo.put at hj
   split at hj
   · rename_i hji; subst hji; cases hj; exact hc
   · rename_i hji
     refine(hm.cell j d hj).block fun hnj=>hb _ (hm.own j d hj hnj).2.1 fun heq=>hji (hm.inj j i d c hj hi hnj hn heq)
 · intro j d hj hnj
   unfold Mo.put at hj
   split at hj
   · rename_i hji; subst hji; exact⟨o1,Zai o2 hg.size,o3,o4⟩
   · obtain⟨h1,h2,h3⟩:=hm.own j d hj hnj
     exact⟨h1,Zai h2 hg.size,h3⟩
 · intro j k d e hj hk hnj hnk heq
   unfold Mo.put at hj hk
   split at hj
   · rename_i hji
     split at hk
     · rename_i hki; rw [hji,hki]
     · subst hji; exact hm.inj j k c e hi hk hnj hnk heq
   · split at hk
     · rename_i hki; subst hki; exact hm.inj j k d c hj hi hnj hnk heq
     · exact hm.inj j k d e hj hk hnj hnk heq
 · intro b x hx
   obtain⟨h1,h2,h3⟩:=hm.ext b x hx
   have hne:b≠(g i).b:=fun hh=>by rw [hh,o3] at hx; cases hx
   exact⟨h1,by rw [hb b (Zag.1 h2).1 hne]; exact h2,h3⟩
theorem Ag.settle {i:Nat} {c:A7 Ty} {us sp:List Value} {T:TypeId} (hm:Ag F h g M w) (hi:M i=some c) (hn:(g i).nl=false) (hb:w.heap[(g i).b]? = some (.cells (us++sp).toArray T (0,0))) (hone:∀ u∈us,u.oneCell' = true) :
  ∃ h',Ad.le h h'∧Ag F h' g (M.put i none) w∧∀ o u,us[o]? = some u→h' (g i).b o=some u:=by
 obtain⟨o1,o2,o3,o4⟩:=hm.own i c hi hn
 have hle:Ad.le h (fun b o=>if b=(g i).b then us[o]? else h b o):=fun b o v hv=>by
  have hne:b≠(g i).b:=fun hh=>by rw [hh,o4 o] at hv; cases hv
  simp only [hne,if_false]; exact hv
 refine⟨fun b o=>if b=(g i).b then us[o]? else h b o,hle,⟨hm.below,Ad.le_trans hm.le hle,?_,?_,?_,?_,?_,?_,hm.glo⟩,fun o u hu=>by simp [hu]⟩
 · intro b o x hx
   replace hx:(if b=(g i).b then us[o]? else h b o)=some x:=hx
   split at hx
   · rename_i hh; exact .inr (by rw [hh]; exact o1)
   · exact hm.old b o x hx
 · intro b o v hv
   replace hv:(if b=(g i).b then us[o]? else h b o)=some v:=hv
   split at hv
   · rename_i hh
     rw [hh]
     refine⟨o2,G6 ?_ (Dt (hone v (Za4 hv)))⟩
     rw [cell_of_row w _ o _ _ _ hb]
     simp only [Zbs]
     rw [Zau (Zaq.1 hv).1]
     exact hv
   · exact hm.has b o v hv
 · intro j d hj
   unfold Mo.put at hj
   split at hj
   · cases hj
   · exact(hm.cell j d hj).mono hle
 · intro j d hj hnj
   unfold Mo.put at hj
   split at hj
   · cases hj
   · rename_i hji
     obtain⟨h1,h2,h3,h4⟩:=hm.own j d hj hnj
     refine⟨h1,h2,h3,fun o=>?_⟩
     have hne:(g j).b≠(g i).b:=fun hh=>hji (hm.inj j i d c hj hi hnj hn hh)
     show(if (g j).b=(g i).b then us[o]? else h (g j).b o)=none
     rw [if_neg hne]; exact h4 o
 · intro j k d e hj hk
   unfold Mo.put at hj hk
   split at hj
   · cases hj
   · split at hk
     · cases hk
     · exact hm.inj j k d e hj hk
 · intro b x hx
   obtain⟨h1,h2,h3⟩:=hm.ext b x hx
   refine⟨h1,h2,fun o=>?_⟩
   have hne:b≠(g i).b:=fun hh=>by rw [hh,o3] at hx; cases hx
   show(if b=(g i).b then us[o]? else h b o)=none
   rw [if_neg hne]; exact h3 o
end
inductive Tr (ρ:Type):Type 1 where
 | ret (x:ρ)
 | fail
 | ask {α:Type} (o:Option α) (k:α→Tr ρ)
 | br (b:Bool) (t e:Tr ρ)
 | sum {α β:Type} (y:α ⊕ β) (k:α→Tr ρ) (l:β→Tr ρ)
def Tr.bind {ρ σ:Type} (t:Tr ρ) (f:ρ→Tr σ):Tr σ:=match t with
 | .ret x=>f x
 | .fail=>.fail
 | .ask o k=>.ask o fun x=>(k x).bind f
 | .br b x y=>.br b (x.bind f) (y.bind f)
 | .sum y k l=>.sum y (fun x=>(k x).bind f) (fun x=>(l x).bind f)
def Tr.runK {ρ σ:Type} (t:Tr ρ) (f:ρ→Option σ):Option σ:=match t with
 | .ret x=>f x
 | .fail=>none
 | .ask o k=>o.bind fun x=>(k x).runK f
 | .br b x y=>bif b then x.runK f else y.runK f
 | .sum y k l=>y.elim (fun x=>(k x).runK f) (fun x=>(l x).runK f)
def Tr.of {ρ:Type}:Option ρ→Tr ρ
 | some x=>.ret x
 | none=>.fail
def Tr.need {ρ:Type} (b:Bool) (t:Tr ρ):Tr ρ:=.br b t .fail
def AL.get {α:Type}:List (Nat×α)→Nat→Option α
 | [],_=>none
 | (j,v)::r,k=>bif Nat.beq j k then some v else AL.get r k
def AL.put {α:Type}:List (Nat×α)→Nat→α→List (Nat×α)
 | [],k,x=>[(k,x)]
 | (j,v)::r,k,x=>bif Nat.beq j k then(k,x)::r else(j,v)::AL.put r k x
def AL.del {α:Type}:List (Nat×α)→Nat→List (Nat×α)
 | [],_=>[]
 | (j,v)::r,k=>bif Nat.beq j k then AL.del r k else(j,v)::AL.del r k
def A8:List Nat→Nat→Bool
 | [],_=>false
 | j::r,k=>bif Nat.beq j k then true else A8 r k
def CQ:List Nat→Nat→Nat
 | [],_=>0
 | j::r,k=>bif Nat.beq j k then 0 else CQ r k+1
def AR:List Nat→Nat→Nat
 | [],_=>0
 | j::_,0=>j
 | _::r,k+1=>AR r k
def AZ {α:Type}:List α→Nat
 | []=>0
 | _::r=>AZ r+1
def Gh:List Nat→Bool
 | []=>true
 | j::r=>!A8 r j && Gh r
class UV (Ty:Nat→Type) where
 typed:Nat→Bool
 sz:Nat→Nat
 view:(k:Nat)→Ty k→List (V Ty)
 pack:(k:Nat)→List (V Ty)→Option (Ty k)
abbrev Az (Ty:Nat→Type):=List (Nat×A7 Ty)
structure St (Ty:Nat→Type) where
 m:List (Nat×V Ty)
 s:Az Ty
 nx:Nat
section
variable {Ty:Nat→Type}
def V.isAgg:V Ty→Bool
 | .agg _=>true
 | .arr _ _=>true
 | .tup _=>true
 | .undef=>true
 | _=>false
def V.cells:V Ty→Option (List (V Ty))
 | .agg cs=>some cs
 | .arr _ _=>none
 | .tup _=>none
 | .undef=>none
 | x=>some [x]
def Nl:Value→Option (V Ty)
 | .int k n=>some (.int k n)
 | .bool b=>some (.bool b)
 | .string s=>some (.str s)
 | .pointer none=>some .nilp
 | .slice none 0 0=>some .nils
 | .map none=>some .nilm
 | .nilFunc=>some .nilf
 | .nilIface=>some .nili
 | _=>none
def Ix:List Value→Option (List (V Ty))
 | []=>some []
 | v::r=>match Nl v with
  | some x=>match Ix r with
   | some xs=>some (x::xs)
   | none=>none
  | none=>none
def PB:Value→Option (V Ty)
 | .agg cs=>match Ix cs.toList with
  | some xs=>some (.agg xs)
  | none=>none
 | v=>Nl v
def KB (P:Program) (T:TypeId):Option (List (V Ty)):=match P.info? T with
 | some i=>match i.zero with
  | some v=>Ix v.cells.toList
  | none=>none
 | none=>none
def Gu (m:List (Nat×V Ty)):Operand→Option (V Ty)
 | .tmp k=>AL.get m k
 | .const v=>PB v
 | .global _=>none
 | .func f=>bif Nat.blt f An then some (.fn f [] []) else none
def IZ (P:Program) (T:TypeId) (cs:List (V Ty)) (off:Nat):Option (V Ty):=match Pz P T with
 | some true=>match Hg P T with
  | some n=>bif Nat.ble (off+n) cs.length then some (.agg ((cs.drop off).take n)) else none
  | none=>none
 | some false=>cs[off]?
 | none=>none
def Ho (cs:List (V Ty)) (off:Nat) (vs:List (V Ty)):Option (List (V Ty)):=bif Nat.ble (off+vs.length) cs.length then some (cs.take off++vs++cs.drop (off+vs.length)) else none
def J1 (place:Nat→Option (Nat×Nat)) (cells:List (V Ty)):List (Nat×List (V Ty))→Option (List (V Ty))
 | []=>some cells
 | (i,v)::rest=>match place i with
  | none=>none
  | some (off,size)=>bif Nat.beq v.length size && Nat.ble (off+size) cells.length then J1 place (cells.take off++v++cells.drop (off+v.length)) rest else none
def Bf (a b:ByteArray):Option ByteArray:=if a.size+b.size≤1000000000 then some (a++b) else none
def Rv (P:Program) (op:BinOp) (T:TypeId):V Ty→V Ty→Option (V Ty)
 | .int k a,.int k' b=>if k=k' then match op with
   | .add=>some (.int k (k.wrap (a+b)))
   | .sub=>some (.int k (k.wrap (a-b)))
   | .mul=>some (.int k (k.wrap (a*b)))
   | .eql=>some (.bool (a == b))
   | .neq=>some (.bool (a != b))
   | .lss=>some (.bool (decide (a<b)))
   | .leq=>some (.bool (decide (a≤b)))
   | .gtr=>some (.bool (decide (a>b)))
   | .geq=>some (.bool (decide (a≥b)))
   | .quo=>match b with | .ofNat (n+1)=>some (.int k (k.wrap (a.tdiv (.ofNat (n+1))))) | _=>none
   | .rem=>match b with | .ofNat (n+1)=>some (.int k (a.tmod (.ofNat (n+1)))) | _=>none
   | _=>none
  else none
 | .bool a,.bool b=>match P.underlying T with
  | some .bool=>match op with
   | .eql=>some (.bool (a == b))
   | .neq=>some (.bool (!(a == b)))
   | _=>none
  | _=>none
 | .str a,.str b=>match P.underlying T with
  | some .string=>match op with
   | .eql=>some (.bool (a == b))
   | .neq=>some (.bool (!(a == b)))
   | _=>none
  | _=>none
 | .ifc _ _,.nili=>match P.underlying T with
  | some (.interface _)=>match op with
   | .eql=>some (.bool false)
   | .neq=>some (.bool true)
   | _=>none
  | _=>none
 | .nili,.nili=>match P.underlying T with
  | some (.interface _)=>match op with
   | .eql=>some (.bool true)
   | .neq=>some (.bool false)
   | _=>none
  | _=>none
 | _,_=>none
def AeH (a:Int):Int→Option Int
 | .ofNat (n+1)=>some (a.tmod (.ofNat (n+1)))
 | _=>none
def AeI (k:IntKind) (a:Int):Int→Option Int
 | .ofNat (n+1)=>some (k.wrap (a.tdiv (.ofNat (n+1))))
 | _=>none
def AdW (P:Program) (op:BinOp) (T:TypeId) (a b:V Ty):Tr (V Ty):=match op,a,b with
 | .rem,.int k x,.int k' y=>if k=k' then .ask (AeH x y) fun z=>.ret (.int k z) else .fail
 | .quo,.int k x,.int k' y=>if k=k' then .ask (AeI k x y) fun z=>.ret (.int k z) else .fail
 | op,a,b=>Tr.of (Rv P op T a b)
def Zj (P:Program) (r:TypeId→List (V Ty)→List (V Ty)→Option Bool) (xs ys:List (V Ty)):List Field→Option Bool
 | []=>some true
 | f::fs=>if f.name = "_" then none else match Pz P f.type with
  | some false=>match xs[f.offset]?,ys[f.offset]? with
   | some (.int k a),some (.int k' b)=>match P.underlying f.type with
    | some (.int _)=>if k=k' then(match Zj P r xs ys fs with
     | some q=>some ((a == b) && q)
     | none=>none) else none
    | _=>none
   | _,_=>none
  | some true=>match IZ P f.type xs f.offset,IZ P f.type ys f.offset with
   | some (.agg us),some (.agg vs)=>match r f.type us vs with
    | some p=>match Zj P r xs ys fs with
     | some q=>some (p && q)
     | none=>none
    | none=>none
   | _,_=>none
  | none=>none
def AcI (P:Program):Nat→TypeId→List (V Ty)→List (V Ty)→Option Bool
 | 0,_,_,_=>none
 | d+1,T,xs,ys=>match P.underlying T with
  | some (.struct fs)=>if P.stoodInHeld T=false then Zj P (AcI P d) xs ys fs.toList else none
  | _=>none
def AeJ (P:Program) (op:BinOp) (T:TypeId) (xs ys:List (V Ty)):Option (V Ty):=match P.underlying T with
 | some (.struct fs)=>if P.stoodInHeld T=false∧P.eqGuardType P.depth T=false then match Zj P (AcI P 3) xs ys fs.toList with
   | some b=>match op with
    | .eql=>some (.bool b)
    | .neq=>some (.bool !b)
    | _=>none
   | none=>none
  else none
 | _=>none
variable [UV Ty]
def J2 (P:Program) (E:Nat):Bool:=match Hg P E with
 | some n=>Nat.beq n (UV.sz Ty E) && Nat.blt 0 n
 | none=>false
def PC (P:Program) (T E n:Nat):Bool:=match Hg P T with
 | some m=>Nat.beq m (n*UV.sz Ty E) && J2 (Ty:=Ty) P E
 | none=>false
def Sf (P:Program) (T:TypeId) (s:Nat→Option (A7 Ty)):V Ty→Nat→Tr (V Ty)
 | .ptr i off,d=>match s i with
  | some (.blk _ cs)=>Tr.of (IZ P T cs (off+d))
  | some (.arr k l)=>match P.underlying T with
   | some (.array n E)=>bif Nat.beq E k && Nat.beq (off+d) 0 && PC (Ty:=Ty) P T E n then Tr.need (Nat.beq l.length n) (.ret (.arr k l)) else .fail
   | _=>.fail
  | _=>.fail
 | .ept cs off,d=>Tr.of (IZ P T cs (off+d))
 | .rpt k i j off,d=>match s i with
  | some (.row k' l) | some (.arr k' l)=>if h:k' = k then .ask ((h▸l:List (Ty k))[j]?) fun x=>Tr.of (IZ P T (UV.view k x) (off+d)) else .fail
  | _=>.fail
 | _,_=>.fail
def GM (P:Program) (T:TypeId) (s:Nat→Option (A7 Ty)) (x:V Ty) (n:Int):Tr (V Ty):=match x with
 | .lst k l=>match P.underlying T with
  | some (.slice E)=>bif Nat.beq E k && J2 (Ty:=Ty) P E then .ask (A4 l n) fun x=>.ret (.ept (UV.view k x) 0) else .fail
  | _=>.fail
 | .hdr k i=>match P.underlying T,s i with
  | some (.slice E),some (.row k' l)=>bif Nat.beq E k && Nat.beq k' k && J2 (Ty:=Ty) P E then .ask (A4 l n) fun _=>.ret (.rpt k i n.toNat 0) else .fail
  | _,_=>.fail
 | .ptr i off=>match P.underlying T,s i with
  | some (.array m E),some (.arr k l)=>bif Nat.beq E k && Nat.beq off 0 && J2 (Ty:=Ty) P E then Tr.need (Nat.beq l.length m) (.ask (A4 l n) fun _=>.ret (.rpt k i n.toNat 0)) else .fail
  | _,_=>.fail
 | .bsl i m=>match P.underlying T with
  | some (.slice E)=>match Hg P E with
   | some (sz+1)=>brN i (sz+1) n 0 m
   | _=>.fail
  | _=>.fail
 | _=>.fail
where
 brN (i sz:Nat) (n:Int) (j:Nat):Nat→Tr (V Ty)
  | 0=>.fail
  | m+1=>.br (n == (j:Int)) (.ret (.ptr i (j*sz))) (brN i sz n (j+1) m)
def PD (a:ByteArray) (lo hi:Int):Option ByteArray:=if 0≤lo∧lo≤hi∧hi≤a.size then some (a.extract lo.toNat hi.toNat) else none
def H5 {α:Type} (l:List α) (lo hi:Int):Option (List α):=if 0≤lo∧lo≤hi∧hi≤l.length then some ((l.drop lo.toNat).take (hi.toNat-lo.toNat)) else none
def Ad1 (a:ByteArray) (i:Int):Option (IK .u8):=match i with
 | .ofNat n=>if h:n<a.size then some ⟨(a[n]'h).toNat⟩ else none
 | _=>none
def AaR (P:Program) (T:TypeId) (x:V Ty) (lo hi:Option (V Ty)):Tr (V Ty):=match x with
 | .str a=>match P.underlying T with
  | some .string=>match lo,hi with
   | none,none=>.ret (.str a)
   | some (.int .i64 l),none=>.ask (PD a l a.size) fun y=>.ret (.str y)
   | none,some (.int .i64 r)=>.ask (PD a 0 r) fun y=>.ret (.str y)
   | some (.int .i64 l),some (.int .i64 r)=>.ask (PD a l r) fun y=>.ret (.str y)
   | _,_=>.fail
  | _=>.fail
 | .lst k xs=>match P.underlying T with
  | some (.slice E)=>bif Nat.beq E k && J2 (Ty:=Ty) P E then match lo,hi with
   | none,none=>.ret (.lst k xs)
   | some (.int .i64 l),none=>.ask (H5 xs l xs.length) fun y=>.ret (.lst k y)
   | none,some (.int .i64 r)=>.ask (H5 xs 0 r) fun y=>.ret (.lst k y)
   | some (.int .i64 l),some (.int .i64 r)=>.ask (H5 xs l r) fun y=>.ret (.lst k y)
   | _,_=>.fail
   else .fail
  | _=>.fail
 | _=>.fail
def BQ (P:Program) (ev:Operand→Option (V Ty)) (s:Nat→Option (A7 Ty)):Op→Tr (V Ty)
 | .move x | .assign x=>Tr.of (ev x)
 | .pick c a b=>match ev c with
  | some (.bool t)=>match t with
   | true=>Tr.of (ev a)
   | false=>Tr.of (ev b)
  | _=>.fail
 | .load t x=>match ev x with
  | some p=>Sf P t s p 0
  | none=>.fail
 | .binOp op t x y _=>match ev x,ev y with
  | some (.agg xs),some (.agg ys)=>Tr.of (AeJ P op t xs ys)
  | some (.str a),some (.str b)=>match op with
   | .add=>.ask (Bf a b) fun c=>.ret (.str c)
   | _=>Tr.of (Rv P op t (.str a) (.str b))
  | some .nili,some .nili=>match y with
   | .const _=>Tr.of (Rv P op t .nili .nili)
   | _=>.fail
  | some a,some b=>AdW P op t a b
  | _,_=>.fail
 | .unOp op _ x=>match op,ev x with
  | .not,some (.bool b)=>.ret (.bool !b)
  | .neg,some (.int k n)=>.ret (.int k (k.wrap (0-n)))
  | _,_=>.fail
 | .convert src dst x=>match P.underlying src,P.underlying dst,ev x with
  | some (.int _),some (.int k),some (.int _ n)=>.ret (.int k (k.wrap n))
  | _,_,_=>.fail
 | .fieldAddr t x f=>match P.underlying t with
  | some (.struct fs)=>match fs[f]? with
   | some fl=>match Hg P fl.type with
    | some (_+1)=>match ev x with
     | some (.ptr i off)=>.ret (.ptr i (off+fl.offset))
     | some (.ept cs off)=>.ret (.ept cs (off+fl.offset))
     | some (.rpt k i j off)=>.ret (.rpt k i j (off+fl.offset))
     | _=>.fail
    | _=>.fail
   | none=>.fail
  | _=>.fail
 | .field t x f=>match P.underlying t,ev x with
  | some (.struct fs),some (.agg cs)=>match fs[f]? with
   | some fl=>Tr.of (IZ P fl.type cs fl.offset)
   | none=>.fail
  | _,_=>.fail
 | .build t ps=>match KB P t with
  | some z=>match P.underlying t with
   | some (.struct fs)=>match P0 P fs.toList,psV ev ps.toList with
    | some pc,some vs=>match J1 (fun i=>pc[i]?) z vs with
     | some cs=>.ret (.agg cs)
     | none=>.fail
    | _,_=>.fail
   | some (.array _ E)=>match Hg P E,psV ev ps.toList with
    | some sz,some vs=>match J1 (fun i=>some (i*sz,sz)) z vs with
     | some cs=>.ret (.agg cs)
     | none=>.fail
    | _,_=>.fail
   | _=>.fail
  | none=>.fail
 | .extract x ix=>match ev x with
  | some (.tup vs)=>Tr.of vs[ix]?
  | _=>.fail
 | .nilCheck x=>match ev x with
  | some (.ptr i off)=>.ret (.ptr i off)
  | some (.ept cs off)=>.ret (.ept cs off)
  | some (.rpt k i j off)=>.ret (.rpt k i j off)
  | _=>.fail
 | .indexAddr t x i=>match ev x,ev i with
  | some x,some (.int _ n)=>GM P t s x n
  | _,_=>.fail
 | .index t x i=>match P.underlying t,ev x,ev i with
  | some .string,some (.str a),some (.int _ n)=>.ask (Ad1 a n) fun c=>.ret (.int .u8 c.n)
  | _,_,_=>.fail
 | .slice t x lo hi none=>match ev x,optV ev lo,optV ev hi with
  | some x,some l,some r=>AaR P t x l r
  | _,_,_=>.fail
 | .makeInterface t x=>match P.underlying t with
  | some (.interface _)=>.fail
  | some _=>match ev x with
   | some v=>.ret (.ifc t v)
   | none=>.fail
  | none=>.fail
 | .makeFunc (.func f) first cap=>match lsV ev first.toList,lsV ev cap.toList with
  | some a,some b=>bif Nat.blt f An then .ret (.fn f a b) else .fail
  | _,_=>.fail
 | .call ⟨.builtin .len,args,tys⟩=>match args.toList,tys.toList with
  | [x],[t]=>match P.underlying t,ev x with
   | some (.slice _),some (.lst _ l)=>.ret (.int .i64 ((l.length:Nat):Int))
   | some (.slice _),some .nils=>.ret (.int .i64 0)
   | some (.slice _),some (.hdr k i)=>match s i with
    | some (.row k' l)=>bif Nat.beq k' k then .ret (.int .i64 ((l.length:Nat):Int)) else .fail
    | _=>.fail
   | some (.slice _),some (.bsl _ n)=>.ret (.int .i64 ((n:Nat):Int))
   | some .string,some (.str a)=>.ret (.int .i64 (a.size:Int))
   | _,_=>.fail
  | _,_=>.fail
 | .call ⟨.builtin .max,args,_⟩=>match args.toList with
  | [x,y]=>match ev x,ev y with
   | some (.int k a),some (.int _ b)=>.ret (.int k (if b>a then b else a))
   | _,_=>.fail
  | _=>.fail
 | .call ⟨.builtin .min,args,_⟩=>match args.toList with
  | [x,y]=>match ev x,ev y with
   | some (.int k a),some (.int _ b)=>.ret (.int k (if b<a then b else a))
   | _,_=>.fail
  | _=>.fail
 | _=>.fail
where
 psV (ev:Operand→Option (V Ty)):List (Nat×Operand)→Option (List (Nat×List (V Ty)))
  | []=>some []
  | (i,x)::r=>match ev x with
   | some v=>match v.cells with
    | some cs=>match psV ev r with
     | some vs=>some ((i,cs)::vs)
     | none=>none
    | none=>none
   | none=>none
 lsV (ev:Operand→Option (V Ty)):List Operand→Option (List (V Ty))
  | []=>some []
  | x::r=>match ev x with
   | some v=>match lsV ev r with
    | some vs=>some (v::vs)
    | none=>none
   | none=>none
 optV (ev:Operand→Option (V Ty)):Option Operand→Option (Option (V Ty))
  | none=>some none
  | some x=>match ev x with
   | some v=>some (some v)
   | none=>none
end
inductive AcJ (Ty:Nat→Type) where
 | normal
 | exit (id:Nat)
 | ret
 | pan (v:V Ty)
structure Lf (Ty:Nat→Type) where
 e:AcJ Ty
 st:St Ty
structure CR (Ty:Nat→Type) where
 p:Bool
 v:V Ty
 s:Az Ty
 n:Nat
abbrev AT (Ty:Nat→Type):=FuncId→List (V Ty)→Nat→Az Ty→Tr (CR Ty)
inductive J3 where
 | loop (r:Nat)
 | cond (r:Nat)
 | block (id:Nat)
 | rf (r:Nat)
abbrev Ld (Ty:Nat→Type):=J3→Option (St Ty→Tr (Lf Ty))
inductive Oc (Ty:Nat→Type) where
 | ok (v:V Ty) (ws:List (Nat×Option (A7 Ty)))
 | pan (v:V Ty) (ws:List (Nat×Option (A7 Ty)))
section
variable {Ty:Nat→Type}
def Az.app (s:Az Ty):List (Nat×Option (A7 Ty))→Az Ty
 | []=>s
 | (i,some c)::r=>Az.app (AL.put s i c) r
 | (i,none)::r=>Az.app (AL.del s i) r
mutual
def V.ids:V Ty→List Nat
 | .ptr i _ | .rpt _ i _ _ | .hdr _ i | .mp i | .bsl i _=>[i]
 | .ept cs _ | .agg cs | .tup cs=>V.idss cs
 | .fn _ a b=>V.idss a++V.idss b
 | .ifc _ x=>V.ids x
 | _=>[]
def V.idss:List (V Ty)→List Nat
 | []=>[]
 | c::cs=>V.ids c++V.idss cs
end
def A7.ids:A7 Ty→List Nat
 | .blk _ vs=>V.idss vs
 | .row _ _ | .arr _ _ | .mp _ _ _=>[]
 | .lp _ _ _ _ vs=>V.idss vs
def Kk:Option (A7 Ty)→List Nat
 | some c=>c.ids
 | none=>[]
def Mg (s:Az Ty):Nat→List Nat→List Nat→List Nat
 | 0,_,acc=>acc
 | _+1,[],acc=>acc
 | n+1,i::t,acc=>bif A8 acc i then Mg s n t acc else Mg s n (t++Kk (AL.get s i)) (acc++[i])
def GN:Nat→Nat→List Nat
 | _,0=>[]
 | k,n+1=>k::GN (k+1) n
def Le (s:Az Ty) (f:Nat→Nat):Nat→List Nat→Az Ty
 | _,[]=>[]
 | j,i::r=>match AL.get s i with
  | some c=>(j,c.ren f)::Le s f (j+1) r
  | none=>Le s f (j+1) r
def KC (s:Az Ty) (ρ:List Nat):List Nat→Bool
 | []=>true
 | i::r=>(match AL.get s i with | some c=>c.okB (A8 ρ) | none=>true) && KC s ρ r
def Uf (ρ:List Nat) (k base j:Nat):Nat:=bif Nat.blt j k then AR ρ j else base+(j-k)
def HR (s:Az Ty) (f:Nat→Nat):Nat→List Nat→List (Nat×Option (A7 Ty))
 | _,[]=>[]
 | j,i::r=>(i,(AL.get s j).map (A7.ren f))::HR s f (j+1) r
def AcK (P:Program) (f:FuncId):Bool:=match P.funcs[f]? with
 | some fn=>fn.body.isSome
 | none=>false
def V.isCell:V Ty→Bool
 | .agg _ | .arr _ _ | .tup _ | .undef=>false
 | _=>true
def DQ:List (V Ty)→Bool
 | []=>true
 | c::cs=>c.isCell && DQ cs
def Iy (P:Program) (call:AT Ty) (s:Az Ty) (base:Nat) (f:FuncId) (args:List (V Ty)):Tr (Oc Ty) :=
 let ρ:=Mg s 200 (V.idss args) []
 let k:=AZ ρ
 bif (AcK P f || Nat.beq f An) && Gh ρ && V.oksB (A8 ρ) args && KC s ρ ρ then
  (call f (V.rens (CQ ρ) args) k (Le s (CQ ρ) 0 ρ)).bind fun r =>
  bif Nat.ble k r.n && Nat.ble r.n (k+64) then
   let fr:=Uf ρ k base
   let ws:=HR r.s fr 0 (ρ++GN base (r.n-k))
   match r.p with
   | false=>.ret (.ok (r.v.ren fr) ws)
   | true=>.ret (.pan (r.v.ren fr) ws)
  else .fail
 else .fail
def Vg (P:Program) [UV Ty] (E:Nat):Option (Ty E):=match KB P E with
 | some z=>UV.pack E z
 | none=>none
def Sg [UV Ty] (E sz:Nat):Nat→List (V Ty)→Option (List (Ty E))
 | 0,_=>some []
 | n+1,cs=>match UV.pack E (cs.take sz) with
  | some x=>match Sg E sz n (cs.drop sz) with
   | some r=>some (x::r)
   | none=>none
  | none=>none
def FG (P:Program) [UV Ty] (E:Nat):Bool:=match P.info? E with
 | some i=>match i.zero with
  | some z=>Nat.beq i.size (UV.sz Ty E) && Nat.beq z.cells.size i.size && Nat.blt 0 i.size && Nat.ble i.bytes 10000
  | none=>false
 | none=>false
def Tf:Operand→Operand→Bool
 | .tmp a,.tmp b=>Nat.beq a b
 | .const (.int .i64 (.ofNat a)),.const (.int .i64 (.ofNat b))=>Nat.beq a b
 | _,_=>false
def PE {α:Type} (x:List α):Nat→List α
 | 0=>[]
 | n+1=>x++PE x n
def Mh (s:Az Ty) (k:Nat):V Ty→Option (List (Ty k))
 | .lst k' l=>if h:k' = k then some (h▸l) else none
 | .nils=>some []
 | .hdr k' i=>if k' = k then match AL.get s i with
   | some (.row k2 l)=>if h:k2=k then some (h▸l) else none
   | _=>none
  else none
 | _=>none
def bytesOf (s:ByteArray):List Int:=s.data.toList.map fun b=>(b.toNat:Int)
def V.kcells:V Ty→List (V Ty)
 | .agg cs=>cs
 | x=>[x]
def V.aggB:V Ty→Bool
 | .agg _=>true
 | .arr _ _ | .tup _ | .undef=>false
 | _=>false
def Ya (P:Program) (call:AT Ty) (s:Az Ty) (base:Nat) (n:Int) (vs:List (V Ty)):List FuncId→Tr (Oc Ty)
 | []=>.fail
 | f::r=>.br (n == (f:Int)) (bif Nat.blt f An then Iy P call s base f vs else .fail) (Ya P call s base n vs r)
def AaS [RFs] (P:Program) (call:AT Ty) (s:Az Ty) (base:Nat) (tys:List TypeId) (vs:List (V Ty)):V Ty→Tr (Oc Ty)
 | .fn f a b=>bif Nat.blt f An then Iy P call s base f (a++vs++b)
  else bif Nat.beq f An then(match a,b with
   | [],[.mp i]=>Iy P call s base An (vs++[.mp i])
   | _,_=>.fail)
  else bif Nat.beq f NS then(match a,b with
   | [.int .i64 n],[]=>Ya P call s base n vs (RFs.cand tys)
   | _,_=>.fail)
  else .fail
 | _=>.fail
variable [UV Ty] [UM Ty] [RFs]
def AcL (P:Program) (v:Nat):Bool:=match P.info? v with
 | some i=>match i.zero with
  | some (.agg _)=>UM.ag Ty v
  | some (.tuple _)=>false
  | some _=>!UM.ag Ty v
  | none=>false
 | none=>false
def Sh (v:Nat) (x:Ty v):V Ty:=bif UM.ag Ty v then .agg (UV.view v x) else(match UV.view v x with
 | [u]=>u
 | _=>.undef)
def Ad2 (P:Program) (s:Az Ty) (t:TypeId) (ok:Bool) (x kx:V Ty):Tr (Oc Ty):=match P.underlying t,x with
 | some (.map K E),.mp j=>match AL.get s j with
  | some (.mp k v l)=>bif Nat.beq K k && Nat.beq E v && AcL (Ty:=Ty) P v && (bif UM.ag Ty k then kx.aggB else !kx.aggB) then match UV.pack k kx.kcells,Vg (Ty:=Ty) P v with
    | some kk,some z=>let y:=AN (UM.keq k) l kk z
     .ret (.ok (bif ok then .tup [Sh v y,.bool (Dm (UM.keq k) l kk)] else Sh v y) [])
    | _,_=>.fail
   else .fail
  | _=>.fail
 | _,_=>.fail
def AdX (P:Program) (s:Az Ty) (t:TypeId) (x kx vx:V Ty):Tr (Oc Ty):=match P.underlying t,x with
 | some (.map K E),.mp j=>match AL.get s j with
  | some (.mp k v l)=>bif Nat.beq K k && Nat.beq E v && (bif UM.ag Ty k then kx.aggB else !kx.aggB) && (bif UM.ag Ty v then vx.aggB else !vx.aggB) then match UV.pack k kx.kcells,UV.pack v vx.kcells with
    | some kk,some vv=>.ret (.ok .undef [(j,some (.mp k v (Fe (UM.keq k) l kk vv)))])
    | _,_=>.fail
   else .fail
  | _=>.fail
 | _,_=>.fail
def AcM (P:Program) (E:TypeId):Bool:=match P.underlying E with
 | some (.int .u8)=>true
 | _=>false
def AaT (P:Program) (s:Az Ty) (src dst:TypeId) (y:V Ty):Option (Tr (Oc Ty)):=match P.underlying src,P.underlying dst with
 | some (.slice E),some .string=>some (match Mh s (UM.b8 Ty) y with
  | some l=>bif Nat.beq E (UM.b8 Ty) && AcM P E then .ret (.ok (.str (UM.str l)) []) else .fail
  | none=>.fail)
 | some .string,some (.slice E)=>some (match y with
  | .str b=>bif Nat.beq E (UM.b8 Ty) && AcM P E then .ret (.ok (.lst (UM.b8 Ty) (UM.bts b)) []) else .fail
  | _=>.fail)
 | some (.slice _),some (.slice E)=>some (match y with
  | .hdr k i=>match AL.get s i with
   | some (.row k2 (x::l))=>bif Nat.beq k2 k && Nat.beq src dst && AcM P E then .ret (.ok (.lst k2 (x::l)) [(i,none)]) else .fail
   | _=>.fail
  | _=>.fail)
 | _,_=>none
def AdY (P:Program) (T:TypeId):Bool:=match P.underlying T with
 | some .string=>true
 | _=>false
def Ad3 (P:Program) (s:Az Ty) (base:Nat) (T2 E:TypeId) (x:V Ty) (q:ByteArray):Tr (Oc Ty) :=
 bif Nat.beq E (UM.b8 Ty) && FG (Ty:=Ty) P (UM.b8 Ty) && AdY P T2 then match Mh s (UM.b8 Ty) x with
  | some l=>match x with
   | .hdr _ i=>.ask (app l (UM.bts q)) fun z=>.ret (.ok (.hdr (UM.b8 Ty) base) [(i,none),(base,some (.row (UM.b8 Ty) z))])
   | .nils=>.ask (app l (UM.bts q)) fun z=>.ret (.ok (.hdr (UM.b8 Ty) base) [(base,some (.row (UM.b8 Ty) z))])
   | _=>.fail
  | none=>.fail
 else .fail
def Si (v:V Ty) (s:Az Ty):V Ty×Az Ty:=match v with
 | .hdr k i=>match AL.get s i with
  | some (.row k2 l)=>bif Nat.beq k2 k then(.lst k2 l,AL.del s i) else(.hdr k i,s)
  | _=>(.hdr k i,s)
 | v=>(v,s)
def K2 (vs:List (V Ty)) (s:Az Ty):List (V Ty)×Az Ty:=match vs with
 | []=>([],s)
 | v::r=>match Si v s with
  | (v',s1)=>match K2 r s1 with
   | (r',s2)=>(v'::r',s2)
def Yb (v:V Ty) (s:Az Ty):List (Nat×Option (A7 Ty)):=match v with
 | .hdr k i=>match AL.get s i with
  | some (.row k2 _)=>bif Nat.beq k2 k then [(i,none)] else []
  | _=>[]
 | _=>[]
def Tg (vs:List (V Ty)) (s:Az Ty):List (Nat×Option (A7 Ty)):=match vs with
 | []=>[]
 | v::r=>Yb v s++Tg r (Si v s).2
def O2 (P:Program) (call:AT Ty) (base:Nat) (m:List (Nat×V Ty)) (s:Az Ty):Op→Tr (Oc Ty)
 | .alloc T=>match P.underlying T with
  | some (.array n E)=>bif UV.typed Ty E && J2 (Ty:=Ty) P E then match KB P T with
    | some z=>bif Nat.beq z.length (n*UV.sz Ty E) then match Sg E (UV.sz Ty E) n z with
      | some l=>.ret (.ok (.ptr base 0) [(base,some (.arr E l))])
      | none=>.fail
     else .fail
    | none=>.fail
   else blkZ T
  | some _=>blkZ T
  | none=>.fail
 | .box _ x=>match Gu m x with
  | some (.arr k l)=>.ret (.ok (.ptr base 0) [(base,some (.arr k l))])
  | some v=>match v.cells with
   | some cs=>bif DQ cs then .ret (.ok (.ptr base 0) [(base,some (.blk 0 cs))]) else .fail
   | none=>.fail
  | none=>.fail
 | .store T a x=>match Gu m a,Gu m x with
  | some (.ptr i off),some v=>match AL.get s i with
   | some (.blk tb cs)=>match v.cells,Hg P T with
    | some vs,some n=>bif Nat.beq n vs.length && DQ vs then match Ho cs off vs with
      | some cs'=>.ret (.ok .undef [(i,some (.blk tb cs'))])
      | none=>.fail
     else .fail
    | _,_=>.fail
   | some (.arr k l)=>match v,P.underlying T with
    | .arr k' l',some (.array n E)=>bif Nat.beq k' k && Nat.beq E k && Nat.beq off 0 && PC (Ty:=Ty) P T E n then Tr.need (Nat.beq l.length n && Nat.beq l'.length n) (.ret (.ok .undef [(i,some (.arr k' l'))])) else .fail
    | _,_=>.fail
   | _=>.fail
  | some (.rpt k i j off),some v=>match AL.get s i with
   | some (.row k' l)=>if h:k' = k then match v.cells,Hg P T with
     | some vs,some n=>bif Nat.beq n vs.length && DQ vs then .ask ((h▸l:List (Ty k))[j]?) fun x=>match Ho (UV.view k x) off vs with
       | some cs=>match UV.pack k cs with
        | some y=>.ret (.ok .undef [(i,some (.row k ((h▸l:List (Ty k)).set j y)))])
        | none=>.fail
       | none=>.fail
      else .fail
     | _,_=>.fail
    else .fail
   | some (.arr k' l)=>if h:k' = k then match v.cells,Hg P T with
     | some vs,some n=>bif Nat.beq n vs.length && DQ vs then .ask ((h▸l:List (Ty k))[j]?) fun x=>match Ho (UV.view k x) off vs with
       | some cs=>match UV.pack k cs with
        | some y=>.ret (.ok .undef [(i,some (.arr k ((h▸l:List (Ty k)).set j y)))])
        | none=>.fail
       | none=>.fail
      else .fail
     | _,_=>.fail
    else .fail
   | _=>.fail
  | _,_=>.fail
 | .buildSlice T n ps=>match P.underlying T with
  | some (.slice E)=>match Hg P E,KB P E,BQ.psV (Gu m) ps.toList with
   | some sz,some z,some vs=>bif Nat.beq z.length sz && Nat.blt 0 sz && Nat.ble (n*sz) 16777216 then match J1 (fun i=>some (i*sz,sz)) (PE z n) vs with
    | some cs=>bif UV.typed Ty E && FG (Ty:=Ty) P E then match Sg E sz n cs with
      | some l=>.ret (.ok (.hdr E base) [(base,some (.row E l))])
      | none=>match Sg E sz n (K2 cs s).1 with
       | some l=>.ret (.ok (.hdr E base) (Tg cs s++[(base,some (.row E l))]))
       | none=>.fail
     else bif DQ cs then .ret (.ok (.bsl base n) [(base,some (.blk 0 cs))]) else .fail
    | none=>.fail
    else .fail
   | _,_,_=>.fail
  | _=>.fail
 | .makeSlice T x y=>match P.underlying T,(bif Tf x y then Gu m x else none) with
  | some (.slice E),some (.int .i64 n)=>match Vg (Ty:=Ty) P E with
   | some z=>bif FG (Ty:=Ty) P E then .ask (mk n z) fun l=>.ret (.ok (.hdr E base) [(base,some (.row E l))]) else .fail
   | none=>.fail
  | _,_=>.fail
 | .call ⟨.builtin .append,args,tys⟩=>match args.toList,tys.toList with
  | [a,b],[T,T2]=>match P.underlying T,Gu m a,Gu m b with
   | some (.slice E),some x,some (.str q)=>Ad3 P s base T2 E x q
   | some (.slice E),some x,some y=>match Mh s E x,Mh s E y with
    | some l,some r=>bif FG (Ty:=Ty) P E then match x with
     | .hdr _ i=>bif Nat.beq T2 T then .ask (app l r) fun z=>.ret (.ok (.hdr E base) [(i,none),(base,some (.row E z))]) else .fail
     | .nils=>bif Nat.beq T2 T then .ask (app l r) fun z=>.ret (.ok (.hdr E base) [(base,some (.row E z))]) else .fail
     | _=>.fail
     else .fail
    | _,_=>.fail
   | _,_,_=>.fail
  | _,_=>.fail
 | .call ⟨.value f,args,tys⟩=>match Gu m f,BQ.lsV (Gu m) args.toList with
  | some f,some vs=>AaS P call s base tys.toList vs f
  | _,_=>.fail
 | .lookup t x i ok=>match Gu m x,Gu m i with
  | some x,some i=>Ad2 P s t ok x i
  | _,_=>.fail
 | .makeMap t none=>match P.underlying t with
  | some (.map K E)=>bif UM.isK Ty K then .ret (.ok (.mp base) [(base,some (.mp K E []))]) else .fail
  | _=>.fail
 | .mapUpdate t x k y | .insert t x k y=>match Gu m x,Gu m k,Gu m y with
  | some x,some k,some y=>AdX P s t x k y
  | _,_,_=>.fail
 | .convert src dst x=>match (match Gu m x with | some y=>AaT P s src dst y | none=>none) with
  | some r=>r
  | none=>(BQ P (Gu m) (AL.get s) (.convert src dst x)).bind fun v=>.ret (.ok v [])
 | .panic x=>match Gu m x with
  | some (.ifc t v)=>.ret (.pan (.ifc t v) [])
  | _=>.fail
 | op=>(BQ P (Gu m) (AL.get s) op).bind fun v=>.ret (.ok v [])
where
 blkZ (T:TypeId):Tr (Oc Ty):=match KB P T with
  | some z=>bif DQ z then .ret (.ok (.ptr base 0) [(base,some (.blk T z))]) else .fail
  | none=>.fail
def putM (m:List (Nat×V Ty)) (d:Option Tmp) (v:V Ty):List (Nat×V Ty):=match d with
 | some d=>(d,v)::m
 | none=>m
def Sj (N:Nat):Option Tmp→Bool
 | some d=>Nat.blt d N
 | none=>true
def Sk (ops:Array Oper) (m:List (Nat×V Ty)) (o:Oper) {ρ:Type} (yes no:List (Nat×V Ty)→Tr ρ):Tr ρ:=match o.guard with
 | none=>yes m
 | some (j,w)=>match ops[j]? with
  | some oj=>match oj.dst with
   | some d=>match AL.get m d with
    | some (.bool b)=>.br (bif w then b else !b) (yes ((d,.bool w)::m)) (no ((d,.bool !w)::m))
    | some .undef=>no m
    | _=>.fail
   | none=>.fail
  | none=>.fail
section
universe u
variable {ρ:Sort u}
def Mi:Nat→(Nat→ρ)→ρ
 | 0,k=>k 0
 | n+1,k=>k (n+1)
omit [UV Ty] [UM Ty] [RFs] in
theorem Ff (n:Nat) (k:Nat→ρ):Mi n k=k n:=by cases n <;> rfl
mutual
def V.frc:V Ty→(V Ty→ρ)→ρ
 | .ptr i o,k=>Mi i fun i=>Mi o fun o=>k (.ptr i o)
 | .ept cs o,k=>V.frcs cs fun cs=>Mi o fun o=>k (.ept cs o)
 | .rpt e i j o,k=>Mi i fun i=>Mi o fun o=>k (.rpt e i j o)
 | .hdr e i,k=>Mi i fun i=>k (.hdr e i)
 | .mp i,k=>Mi i fun i=>k (.mp i)
 | .bsl i n,k=>Mi i fun i=>k (.bsl i n)
 | .fn f a b,k=>V.frcs a fun a=>V.frcs b fun b=>k (.fn f a b)
 | .ifc t x,k=>V.frc x fun x=>k (.ifc t x)
 | .agg cs,k=>V.frcs cs fun cs=>k (.agg cs)
 | .tup cs,k=>V.frcs cs fun cs=>k (.tup cs)
 | .int e n,k=>k (.int e n)
 | .bool b,k=>k (.bool b)
 | .str b,k=>k (.str b)
 | .nilp,k=>k .nilp
 | .nils,k=>k .nils
 | .nilm,k=>k .nilm
 | .nilf,k=>k .nilf
 | .nili,k=>k .nili
 | .lst e l,k=>k (.lst e l)
 | .arr e l,k=>k (.arr e l)
 | .undef,k=>k .undef
def V.frcs:List (V Ty)→(List (V Ty)→ρ)→ρ
 | [],k=>k []
 | c::cs,k=>V.frc c fun c=>V.frcs cs fun cs=>k (c::cs)
end
omit [UV Ty] [UM Ty] [RFs] in
mutual
theorem V.frc_eq:∀ (x:V Ty)(k:V Ty→ρ),x.frc k=k x
 | .ptr i o,k=>by unfold V.frc; simp only [Ff]
 | .ept cs o,k=>by unfold V.frc; simp only [Ff,V.frcs_eq cs]
 | .rpt e i j o,k=>by unfold V.frc; simp only [Ff]
 | .hdr e i,k=>by unfold V.frc; simp only [Ff]
 | .mp i,k=>by unfold V.frc; simp only [Ff]
 | .bsl i n,k=>by unfold V.frc; simp only [Ff]
 | .fn f a b,k=>by unfold V.frc; simp only [V.frcs_eq a,V.frcs_eq b]
 | .ifc t x,k=>by unfold V.frc; simp only [V.frc_eq x]
 | .agg cs,k=>by unfold V.frc; simp only [V.frcs_eq cs]
 | .tup cs,k=>by unfold V.frc; simp only [V.frcs_eq cs]
 | .int _ _,k | .bool _,k | .str _,k | .nilp,k | .nils,k | .nilm,k | .nilf,k | .nili,k | .lst _ _,k | .arr _ _,k | .undef,k=>by unfold V.frc; rfl
theorem V.frcs_eq:∀ (xs:List (V Ty))(k:List (V Ty)→ρ),V.frcs xs k=k xs
 | [],k=>by unfold V.frcs; rfl
 | c::cs,k=>by unfold V.frcs; simp only [V.frc_eq c,V.frcs_eq cs]
end
def A7.frc:A7 Ty→(A7 Ty→ρ)→ρ
 | .blk t vs,k=>V.frcs vs fun vs=>k (.blk t vs)
 | .row e l,k=>k (.row e l)
 | .arr e l,k=>k (.arr e l)
 | .mp e v l,k=>k (.mp e v l)
 | .lp s e t ks vs,k=>V.frcs vs fun vs=>k (.lp s e t ks vs)
omit [UV Ty] [UM Ty] [RFs] in
theorem A7.frc_eq (c:A7 Ty) (k:A7 Ty→ρ):c.frc k=k c:=by
 cases c <;> unfold A7.frc <;> first | rfl | exact V.frcs_eq _ _
def WY {α:Type}:List (Nat×α)→(List (Nat×α)→ρ)→ρ
 | [],k=>k []
 | (i,x)::r,k=>WY r fun r=>k ((i,x)::r)
omit [UV Ty] [UM Ty] [RFs] in
theorem Th {α:Type}:∀ (l:List (Nat×α))(k:List (Nat×α)→ρ),WY l k=k l
 | [],k=>rfl
 | (i,x)::r,k=>by unfold WY; rw [Th r]
def AcN:List (Nat×V Ty)→(List (Nat×V Ty)→ρ)→ρ
 | [],k=>k []
 | (i,x)::r,k=>Mi i fun i=>x.frc fun x=>AcN r fun r=>k ((i,x)::r)
omit [UV Ty] [UM Ty] [RFs] in
theorem Yc:∀ (l:List (Nat×V Ty))(k:List (Nat×V Ty)→ρ),AcN l k=k l
 | [],k=>rfl
 | (i,x)::r,k=>by unfold AcN; simp only [Ff,V.frc_eq,Yc r]
def AcO:Az Ty→(Az Ty→ρ)→ρ
 | [],k=>k []
 | (i,x)::r,k=>Mi i fun i=>x.frc fun x=>AcO r fun r=>k ((i,x)::r)
omit [UV Ty] [UM Ty] [RFs] in
theorem Yd:∀ (l:Az Ty)(k:Az Ty→ρ),AcO l k=k l
 | [],k=>rfl
 | (i,x)::r,k=>by unfold AcO; simp only [Ff,A7.frc_eq,Yd r]
def AeK:Option (A7 Ty)→(Option (A7 Ty)→ρ)→ρ
 | none,k=>k none
 | some c,k=>c.frc fun c=>k (some c)
def AaU:List (Nat×Option (A7 Ty))→(List (Nat×Option (A7 Ty))→ρ)→ρ
 | [],k=>k []
 | (i,x)::r,k=>Mi i fun i=>AeK x fun x=>AaU r fun r=>k ((i,x)::r)
omit [UV Ty] [UM Ty] [RFs] in
theorem Ti:∀ (l:List (Nat×Option (A7 Ty)))(k:List (Nat×Option (A7 Ty))→ρ),AaU l k=k l
 | [],k=>rfl
 | (i,x)::r,k=>by
  unfold AaU
  cases x <;> simp only [Ff,AeK,A7.frc_eq,Ti r]
def Ye:List Nat→(List Nat→ρ)→ρ
 | [],k=>k []
 | i::r,k=>Mi i fun i=>Ye r fun r=>k (i::r)
omit [UV Ty] [UM Ty] [RFs] in
theorem Vh:∀ (l:List Nat)(k:List Nat→ρ),Ye l k=k l
 | [],k=>rfl
 | i::r,k=>by unfold Ye; simp only [Ff,Vh r]
def St.frc:St Ty→(St Ty→ρ)→ρ
 | ⟨m,s,n⟩,k=>AcN m fun m=>AcO s fun s=>Mi n fun n=>k ⟨m,s,n⟩
omit [UV Ty] [UM Ty] [RFs] in
theorem St.frc_eq (st:St Ty) (k:St Ty→ρ):st.frc k=k st:=by
 cases st; unfold St.frc; simp only [Yc,Yd,Ff]
end
def Nm (P:Program) (N:Nat) (call:AT Ty) (ops:Array Oper) (nx:Nat):Nat→List Oper→List (Nat×V Ty)→Az Ty→Tr (Lf Ty)
 | i,[],m,s=>.ret ⟨.normal,⟨m,s,nx+64*i⟩⟩
 | i,o::r,m,s=>bif Sj N o.dst then
   Sk ops m o
    (fun m=>(O2 P call (nx+64*i) m s o.op).bind fun oc=>match oc with
     | .ok v ws=>v.frc fun v=>AaU ws fun ws=>WY (putM m o.dst v) fun m=>WY (s.app ws) fun s=>Nm P N call ops nx (i+1) r m s
     | .pan v ws=>.ret ⟨.pan v,⟨m,s.app ws,nx+64*(i+1)⟩⟩)
    (fun m=>Nm P N call ops nx (i+1) r (putM m o.dst .undef) s)
  else .fail
structure Rc (Ty:Nat→Type) where
 v:V Ty
 ws:List (Nat×Option (A7 Ty))
 rd:List Nat
def Afa:Operand→List Nat
 | .tmp k=>[k]
 | _=>[]
def Vi:List Operand→List Nat
 | []=>[]
 | x::r=>Afa x++Vi r
def J4 {α:Type} (ns:List Nat):List (Nat×α)→List (Nat×α)
 | []=>[]
 | (i,x)::r=>bif A8 ns i then(i,x)::J4 ns r else J4 ns r
def AaV (m:List (Nat×V Ty)):List Operand→List Nat
 | []=>[]
 | x::r=>(match Gu m x with | some v=>v.ids | none=>[])++AaV m r
def AdZ (m:List (Nat×V Ty)) (s:Az Ty) (op:Op):List Nat:=match op with
 | .call ⟨.value _,_,_⟩=>Mg s 200 (AaV m op.operands.toList) []
 | .move _ | .assign _ | .nilCheck _ | .fieldAddr _ _ _=>[]
 | op=>AaV m op.operands.toList
def Iz (ws:List (Nat×Option (A7 Ty))):List Nat:=ws.map (·.1)
def newB (base i:Nat):Bool:=Nat.ble base i && Nat.blt i (base+64)
def Zk (base:Nat) (rd:List Nat):List Nat→Bool
 | []=>true
 | i::r=>(A8 rd i || newB base i) && Zk base rd r
def WZ (P:Program) (N:Nat) (call:AT Ty) (ops:Array Oper) (nx:Nat):Nat→List Oper→List (Nat×V Ty)→Az Ty→Tr (List (Rc Ty))
 | _,[],_,_=>.ret []
 | i,o::r,m,s=>bif Sj N o.dst then
   Sk ops m o
    (fun m=>Ye (AdZ m s o.op) fun rd =>
     (O2 P call (nx+64*i) (J4 (Vi o.op.operands.toList) m) (J4 rd s) o.op).bind fun oc=>match oc with
      | .ok v ws=>v.frc fun v=>AaU ws fun ws=>bif Zk (nx+64*i) rd (Iz ws) then WY (putM m o.dst v) fun m=>WY (s.app ws) fun s=>(WZ P N call ops nx (i+1) r m s).bind fun rs=>.ret (⟨v,ws,rd⟩::rs) else .fail
      | .pan _ _=>.fail)
    (fun m=>(WZ P N call ops nx (i+1) r (putM m o.dst .undef) s).bind fun rs=>.ret (⟨.undef,[],[]⟩::rs))
  else .fail
def Tj:List (List Nat)→List Nat→List Nat
 | [],acc=>acc
 | es::r,acc=>Tj r (acc++[es.foldl (fun s e=>s ||| 2 ^ e ||| AR acc e) 0])
def CG (o:Oper):List Nat:=(o.after.toList.filter fun e=>Region.binds .any e).map (·.on)
def ED (ops:List Oper):List Nat:=Tj (ops.map CG) []
def O3 (n i:Nat):Bool:=Nat.testBit n i
def H6 (ops:Array Oper) (o:Oper):List Nat:=Vi o.op.operands.toList++(match o.dst with | some d=>[d] | none=>[])++(match o.guard with | some (j,_)=>(match ops[j]? with | some oj=>(match oj.dst with | some d=>[d] | none=>[]) | none=>[]) | none=>[])
def Jd (o:Oper):List Nat:=match o.dst with
 | some d=>[d]
 | none=>[]
def Lg (xs ys:List Nat):Bool:=xs.all fun x=>!A8 ys x
def PF (ops:Array Oper) (B:List Nat) (i:Nat) (a:Oper) (ra:Rc Ty) (j:Nat) (b:Oper) (rb:Rc Ty):Bool :=
 O3 (AR B j) i || (Lg (Jd a) (H6 ops b) && Lg (Jd b) (H6 ops a) && Lg (Iz ra.ws) rb.rd && Lg (Iz ra.ws) (Iz rb.ws) && Lg ra.rd (Iz rb.ws))
def Xa (ops:Array Oper) (B:List Nat) (i:Nat) (a:Oper) (ra:Rc Ty):Nat→List Oper→List (Rc Ty)→Bool
 | j,b::bs,rb::rbs=>PF ops B i a ra j b rb && Xa ops B i a ra (j+1) bs rbs
 | _,_,_=>true
def Kl (ops:Array Oper) (B:List Nat):Nat→List Oper→List (Rc Ty)→Bool
 | i,a::as,ra::ras=>Xa ops B i a ra (i+1) as ras && Kl ops B (i+1) as ras
 | _,_,_=>true
def Nn:Nat→List Oper→Bool
 | _,[]=>true
 | i,o::r=>(CG o).all (fun e=>Nat.blt e i) && Nn (i+1) r
def No (nx:Nat):Nat→List Oper→List (Rc Ty)→List (Nat×V Ty)→Az Ty→Lf Ty
 | i,o::r,rc::rs,m,s=>No nx (i+1) r rs (putM m o.dst rc.v) (s.app rc.ws)
 | i,_,_,m,s=>⟨.normal,⟨m,s,nx+64*i⟩⟩
def Tk (P:Program) (N:Nat) (call:AT Ty) (ops:Array Oper) (nx:Nat) (m:List (Nat×V Ty)) (s:Az Ty):Tr (Lf Ty) :=
 bif Nn 0 ops.toList then(WZ P N call ops nx 0 ops.toList m s).bind fun rs =>
  bif Kl ops (ED ops.toList) 0 ops.toList rs then .ret (No nx 0 ops.toList rs m s) else .fail
 else .fail
def HS {α:Type}:List α→Option (List α×α)
 | []=>none
 | [x]=>some ([],x)
 | x::r=>match HS r with
  | some (l,y)=>some (x::l,y)
  | none=>none
def Km (b:Nat):Nat→Bool
 | 0=>true
 | i+1=>O3 b i && Km b i
def Ad4 (ops:Array Oper):Bool:=match HS ops.toList with
 | some (pre,z)=>(match z.op with
  | .call _=>true
  | _=>false) && Km (AR (ED ops.toList) (AZ pre)) (AZ pre)
 | none=>false
def PG (P:Program) (N:Nat) (call:AT Ty) (ops:Array Oper) (nx:Nat) (m:List (Nat×V Ty)) (s:Az Ty):Tr (Lf Ty):=match HS ops.toList with
 | some (pre,z)=>bif Nn 0 ops.toList && Km (AR (ED ops.toList) (AZ pre)) (AZ pre) then(WZ P N call ops nx 0 pre m s).bind fun rs =>
   bif Kl ops (ED ops.toList) 0 pre rs then Nm P N call ops nx (AZ pre) [z] (No nx 0 pre rs m s).st.m (No nx 0 pre rs m s).st.s else .fail
  else .fail
 | none=>.fail
def PH (P:Program) (N:Nat) (call:AT Ty) (ops:Array Oper) (nx:Nat) (m:List (Nat×V Ty)) (s:Az Ty):Tr (Lf Ty):=bif Ad4 ops then PG P N call ops nx m s else Tk P N call ops nx m s
def Aet:Code→Option Nat
 | .region id _ _=>some id
 | .seq a b=>match Aet a with
  | some r=>some r
  | none=>Aet b
 | .cond _ a b=>match Aet a with
  | some r=>some r
  | none=>Aet b
 | .block _ c | .loop c | .scope c=>Aet c
 | _=>none
def Lh (c:Code):Nat:=match Aet c with
 | some r=>r
 | none=>0
def Aea (call:AT Ty):AT Ty:=fun f args k s=>bif Nat.beq f An then .fail else call f args k s
def Cv (P:Program) (N:Nat) (call:AT Ty) (cuts:Ld Ty):Code→St Ty→Tr (Lf Ty)
 | .skip,st | .label _,st=>.ret ⟨.normal,st⟩
 | .region _ ops false,st=>bif Fc ops then Nm P N call ops st.nx 0 ops.toList st.m st.s else .fail
 | .region _ ops true,st=>bif Fc ops then PH P N call ops st.nx st.m st.s else .fail
 | .seq a b,st=>(Cv P N call cuts a st).bind fun lf=>match lf.e with
  | .normal=>lf.st.frc fun st=>Cv P N call cuts b st
  | _=>.ret lf
 | .cond c a b,st=>match cuts (.cond (Lh (.cond c a b))) with
  | some f=>f st
  | none=>match Gu st.m c with
   | some (.bool x)=>.br x (Cv P N call cuts a st) (Cv P N call cuts b st)
   | _=>.fail
 | .block id c,st=>match cuts (.block id) with
  | some f=>f st
  | none=>(Cv P N call cuts c st).bind fun lf=>match lf.e with
   | .exit j=>bif Nat.beq j id then .ret ⟨.normal,lf.st⟩ else .ret lf
   | _=>.ret lf
 | .loop c,st=>match cuts (.loop (Lh c)) with
  | some f=>f st
  | none=>.fail
 | .scope c,st=>Cv P N call cuts c st
 | .exit id,st=>.ret ⟨.exit id,st⟩
 | .ret,st=>.ret ⟨.ret,st⟩
 | .rangeFunc _ _ _ b,st=>match cuts (.rf (Lh b)) with
  | some f=>f st
  | none=>.fail
 | _,_=>.fail
def Br (cuts:Ld Ty):Code→List Code
 | .seq a b=>Br cuts a++Br cuts b
 | .cond c a b=>match cuts (.cond (Lh (.cond c a b))) with
  | some _=>[.cond c a b]
  | none=>Br cuts a++Br cuts b
 | .block id c=>match cuts (.block id) with
  | some _=>[.block id c]
  | none=>Br cuts c
 | .loop c=>match cuts (.loop (Lh c)) with
  | some _=>[.loop c]
  | none=>[]
 | .scope c=>Br cuts c
 | .rangeFunc f ps a b=>match cuts (.rf (Lh b)) with
  | some _=>[.rangeFunc f ps a b]
  | none=>[]
 | _=>[]
def Fg:Code→Bool
 | .seq a b | .cond _ a b=>Fg a && Fg b
 | .block _ c | .loop c=>Fg c
 | .scope _=>false
 | _=>true
def GO:Code→J3
 | .cond c a b=>.cond (Lh (.cond c a b))
 | .block id _=>.block id
 | .loop c=>.loop (Lh c)
 | .rangeFunc _ _ _ b=>.rf (Lh b)
 | _=>.block 0
def Mj (P:Program) (m:List (Nat×V Ty)) (s:Az Ty):List ResultVar→Tr (List (V Ty))
 | []=>.ret []
 | .tmp k::r=>match AL.get m k with
  | some v=>(Mj P m s r).bind fun vs=>.ret (v::vs)
  | none=>.fail
 | .cell a T::r=>match AL.get m a with
  | some (.ptr i off)=>(Sf P T (AL.get s) (.ptr i off) 0).bind fun v=>(Mj P m s r).bind fun vs=>.ret (v::vs)
  | _=>.fail
def O4:List (V Ty)→V Ty
 | [v]=>v
 | vs=>.tup vs
def PI (k:Nat) (ρ:List Nat):Bool:=go 0 k ρ
where
 go (i:Nat):Nat→List Nat→Bool
  | 0,_=>true
  | n+1,j::r=>Nat.beq j i && go (i+1) n r
  | _+1,[]=>false
def J5 (k:Nat) (p:Bool) (v:V Ty) (s:Az Ty):Tr (CR Ty) :=
 let ρ:=Mg s 400 (idsAt s 0 k++V.ids v) (GN 0 k)
 bif Gh ρ && V.okB (A8 ρ) v && KC s ρ ρ && PI k ρ then .ret ⟨p,v.ren (CQ ρ),Le s (CQ ρ) 0 ρ,AZ ρ⟩ else .fail
where
 idsAt (s:Az Ty) (j:Nat):Nat→List Nat
  | 0=>[]
  | n+1=>Kk (AL.get s j)++idsAt s (j+1) n
def AcP:Nat→List (V Ty)→List (Nat×V Ty)
 | _,[]=>[]
 | i,v::r=>(i,v)::AcP (i+1) r
def Xb (P:Program) (call:AT Ty) (cuts:FuncId→Ld Ty):AT Ty:=fun f args k s=>match P.funcs[f]? with
 | some fn=>match fn.body with
  | some c=>bif Nat.blt f An && Nat.ble args.length fn.ntmps then(Cv P fn.ntmps call (cuts f) c ⟨AcP 0 args,s,k⟩).bind fun lf=>match lf.e with
    | .normal | .ret=>(Mj P lf.st.m lf.st.s fn.results.toList).bind fun vs=>J5 k false (O4 vs) lf.st.s
    | .pan v=>J5 k true v lf.st.s
    | .exit _=>.fail
   else .fail
  | none=>.fail
 | none=>.fail
def Yf (P:Program) (laws:FuncId→Option (List (V Ty)→Nat→Az Ty→Tr (CR Ty))) (cuts:FuncId→Ld Ty):Nat→AT Ty
 | 0=>fun _ _ _ _=>.fail
 | n+1=>fun f args k s=>match laws f with
  | some l=>l args k s
  | none=>Xb P (Yf P laws cuts n) cuts f args k s
end
end Go.Proofs.YtkpgggfibljflaaGreatDoor
namespace Go.Proofs.YtkpgggfibljflaaGreatDoor
open Go Go.RowKit
open Rep (rep)
section
variable {ρ σ τ:Type}
theorem Tr.runK_ask {α:Type} (o:Option α) (k:α→Tr ρ) (f:ρ→Option σ):(Tr.ask o k).runK f=o.bind fun x=>(k x).runK f:=rfl
theorem Tr.runK_br (b:Bool) (x y:Tr ρ) (f:ρ→Option σ):(Tr.br b x y).runK f=bif b then x.runK f else y.runK f:=rfl
theorem Tr.run_of (o:Option ρ):(Tr.of o).runK some=o:=by cases o <;> rfl
theorem Vj {Ty:Nat→Type} {P:Program} {op:BinOp} {T:TypeId} {a b v:V Ty} (h:(AdW P op T a b).runK some=some v):Rv P op T a b=some v:=by
 unfold AdW at h
 split at h
 · rename_i k x k' y
   split at h
   · rename_i hk
     rw [Tr.runK_ask] at h
     obtain⟨z,h1,h2⟩:=Zae.1 h
     cases h2
     subst hk
     unfold AeH at h1
     split at h1
     · cases h1; simp [Rv]
     · cases h1
   · cases h
 · rename_i k x k' y
   split at h
   · rename_i hk
     rw [Tr.runK_ask] at h
     obtain⟨z,h1,h2⟩:=Zae.1 h
     cases h2
     subst hk
     unfold AeI at h1
     split at h1
     · cases h1; simp [Rv]
     · cases h1
   · cases h
 · rw [Tr.run_of] at h; exact h
theorem Tr.runK_need (b:Bool) (t:Tr ρ) (f:ρ→Option σ):(Tr.need b t).runK f=bif b then t.runK f else none:=rfl
theorem Tr.runK_bind (t:Tr ρ) (f:ρ→Tr τ) (g:τ→Option σ):(t.bind f).runK g=t.runK fun x=>(f x).runK g:=by
 induction t with
 | ret x=>rfl
 | fail=>rfl
 | ask o k ih=>simp only [Tr.bind,Tr.runK_ask]; congr 1; funext x; exact ih x
 | br b x y h1 h2=>simp only [Tr.bind,Tr.runK_br,h1,h2]
 | sum y k l h1 h2=>cases y with
  | inl x=>exact h1 x
  | inr x=>exact h2 x
theorem Tr.runK_some (t:Tr ρ) (f:ρ→Option σ):t.runK f=(t.runK some).bind f:=by
 induction t with
 | ret x=>rfl
 | fail=>rfl
 | ask o k ih=>simp only [Tr.runK_ask]; cases o with
  | none=>rfl
  | some x=>exact ih x
 | br b x y h1 h2=>simp only [Tr.runK_br]; cases b <;> simp [h1,h2]
 | sum y k l h1 h2=>cases y with
  | inl x=>exact h1 x
  | inr x=>exact h2 x
theorem Tr.run_bind {t:Tr ρ} {f:ρ→Tr τ} {y:τ} (h:(t.bind f).runK some=some y):∃ x,t.runK some=some x∧(f x).runK some=some y:=by
 rw [Tr.runK_bind,Tr.runK_some] at h
 exact Zae.1 h
end
class UL (Ty:Nat→Type) [∀ k,Rep (Ty k)] [UV Ty]:Prop where
 sz_eq:∀ k,UV.sz Ty k=Rep.sz (Ty k)
 view_den:∀ (g:GE)(h:Ad)(k:Nat)(x:Ty k)(us:List Value),rep h x us→V.dens g h (UV.view k x) us
 view_ok:∀ (p:Nat→Bool)(k:Nat)(x:Ty k),V.oksB p (UV.view k x)=true
 pack_rep:∀ (g:GE)(h:Ad)(k:Nat)(vs:List (V Ty))(x:Ty k)(us:List Value),UV.pack k vs=some x→V.dens g h vs us→rep h x us
section
variable {Ty:Nat→Type} [rT:∀ k,Rep (Ty k)] [RFs] [UM Ty] [UML Ty] {P:Program} {F:Fr} {h:Ad} {g:GE} {M:Mo Ty} {w:World}
theorem PJ {v:Value} {x:V Ty} (hh:Nl v=some x):x.den g h v:=by
 unfold Nl at hh
 split at hh <;> first | (cases hh; unfold V.den; rfl) | cases hh
theorem J6:∀ {vs:List Value} {xs:List (V Ty)},Ix vs=some xs→V.dens g h xs vs
 | [],xs,hh=>by cases hh; unfold V.dens; rfl
 | v::r,xs,hh=>by
  unfold Ix at hh
  split at hh
  · rename_i x hx
    split at hh
    · rename_i ys hys
      cases hh
      unfold V.dens
      exact⟨v,r,rfl,PJ hx,J6 hys⟩
    · cases hh
  · cases hh
theorem Xc {v:Value} {x:V Ty} (hh:PB v=some x):x.den g h v:=by
 unfold PB at hh
 split at hh
 · rename_i cs
   split at hh
   · rename_i xs hxs
     cases hh
     unfold V.den
     exact⟨cs.toList,by simp,J6 hxs⟩
   · cases hh
 · exact PJ hh
theorem FV {T:TypeId} {cs:List (V Ty)} (w:World) (hh:KB P T=some cs):∃ z,(zeroValue T).run P w=.ok z w∧V.dens g h cs z.cells.toList∧∃ i,P.info? T=some i∧i.zero=some z:=by
 unfold KB at hh
 split at hh
 · rename_i i hi
   split at hh
   · rename_i v hv
     exact⟨v,by simp [zeroValue,typeInfo,hi,hv],J6 hh,i,hi,hv⟩
   · cases hh
 · cases hh
theorem V.den_cells:∀ {x:V Ty} {u:Value} {cs:List (V Ty)},x.den g h u→x.cells=some cs→V.dens g h cs u.cells.toList:=by
 intro x u cs hd hc
 have key:∀ {y:V Ty} {u:Value},y.den g h u→u.cells=#[u]→V.dens g h [y] u.cells.toList:=fun {y u} hd hu=>by
  rw [hu]; unfold V.dens V.dens; exact⟨u,[],rfl,hd,rfl⟩
 cases x <;> simp only [V.cells,Option.some.injEq,reduceCtorEq] at hc
 case agg cs' =>
  subst hc
  unfold V.den at hd
  obtain⟨us,rfl,hd⟩:=hd
  exact hd
 all_goals
  subst hc
  refine key hd ?_
  unfold V.den at hd
 case int=>rw [hd]; rfl
 case bool=>rw [hd]; rfl
 case str=>rw [hd]; rfl
 case nilp=>rw [hd]; rfl
 case nils=>rw [hd]; rfl
 case nilm=>rw [hd]; rfl
 case nilf=>rw [hd]; rfl
 case nili=>rw [hd]; rfl
 case ptr=>rw [hd]; rfl
 case rpt=>rw [hd]; rfl
 case mp=>rw [hd]; rfl
 case bsl=>rw [hd]; rfl
 case hdr=>rw [hd]; split <;> rfl
 case lst=>obtain⟨a,c,h1,_⟩:=hd; rw [h1]; rfl
 case ept=>obtain⟨b,o,us,h1,_⟩:=hd; rw [h1]; rfl
 case fn=>obtain⟨as,bs,h1,_⟩:=hd; rw [h1]; rcases XZ _ as bs with e | ⟨x,y,z,e⟩ <;> rw [e] <;> rfl
 case ifc=>obtain⟨u',h1,_⟩:=hd; rw [h1]; rfl
theorem J7 {T:TypeId} {cs:List (V Ty)} {us:List Value} {off:Nat} {v:V Ty} (w:World) (hp:IZ P T cs off=some v) (hd:V.dens g h cs us):∃ u,(part T us.toArray off).run P w=.ok u w∧v.den g h u:=by
 unfold IZ at hp
 split at hp
 · rename_i ha
   split at hp
   · rename_i n hn
     cases hb:Nat.ble (off+n) cs.length with
     | false=>rw [hb] at hp; cases hp
     | true =>
      rw [hb] at hp; cases hp
      refine⟨.agg ((us.drop off).take n).toArray,?_,?_⟩
      · simp only [part,Sem.run_bind,Dr w ha,Result.andThen_ok,if_true,AW w hn,Sem.run_pure]
        rw [Mb]
      · unfold V.den
        exact⟨_,rfl,V.dens_take n (V.dens_drop off hd)⟩
   · cases hp
 · rename_i ha
   obtain⟨u,hu,hv⟩:=V.dens_get hd hp
   refine⟨u,?_,hv⟩
   simp only [part,Sem.run_bind,Dr w ha,Result.andThen_ok,Zaz,if_false]
   simp [hu]
 · cases hp
theorem Ml {T:TypeId} {cs:List (V Ty)} {us:List Value} {b o off:Nat} {v:V Ty} (hc:∀ (j:Nat)(u:Value),us[j]? = some u→w.cell? ⟨b,o+j,none⟩=some u) (hp:IZ P T cs off=some v) (hd:V.dens g h cs us) :
  ∃ u,(loadVar T ⟨b,o+off,none⟩).run P w=.ok u w∧v.den g h u:=by
 unfold IZ at hp
 split at hp
 · rename_i ha
   split at hp
   · rename_i n hn
     cases hb:Nat.ble (off+n) cs.length with
     | false=>rw [hb] at hp; cases hp
     | true =>
      rw [hb] at hp; cases hp
      have hle:off+n≤us.length:=by rw [V.dens_len hd]; exact Zaf hb
      have:=run_loadCells_list (P:=P) w ⟨b,o+off,none⟩ ((us.drop off).take n) (fun j v hj=>by
       rw [List.getElem?_take] at hj
       split at hj
       · rw [List.getElem?_drop] at hj
         have:=hc (off+j) v hj
         rw [Ng _ _ rfl]
         simpa [Zbk] using this
       · cases hj)
      rw [show((us.drop off).take n).length=n by simp; omega] at this
      refine⟨.agg ((us.drop off).take n).toArray,?_,?_⟩
      · simp only [loadVar,Sem.run_bind,Dr w ha,Result.andThen_ok,if_true,AW w hn,this,Sem.run_pure]
      · unfold V.den
        exact⟨_,rfl,V.dens_take n (V.dens_drop off hd)⟩
   · cases hp
 · rename_i ha
   obtain⟨u,hu,hv⟩:=V.dens_get hd hp
   refine⟨u,?_,hv⟩
   have:=hc off u hu
   simp only [loadVar,Sem.run_bind,Dr w ha,Result.andThen_ok,Zaz,if_false,run_load,this]
 · cases hp
theorem Ag.blkT {i tb:Nat} {cs:List (V Ty)} (hm:Ag F h g M w) (hi:M i=some (.blk tb cs)):∃ us T,w.heap[(g i).b]? = some (.cells us.toArray T (0,0))∧V.dens g h cs us∧(∀ u∈us,u.oneCell' = true)∧(g i).nl=false∧(tb=0∨T=tb):=by
 obtain⟨h0,us,T,h1,h2,h3,h4⟩:=hm.cell i _ hi
 exact⟨us,T,h1,h2,h3,h0,h4⟩
theorem Ag.blk {i tb:Nat} {cs:List (V Ty)} (hm:Ag F h g M w) (hi:M i=some (.blk tb cs)):∃ us T,w.heap[(g i).b]? = some (.cells us.toArray T (0,0))∧V.dens g h cs us∧(∀ u∈us,u.oneCell' = true)∧(g i).nl=false∧∀ (j:Nat)(u:Value),us[j]? = some u→w.cell? ⟨(g i).b,0+j,none⟩=some u:=by
 obtain⟨h0,us,T,h1,h2,h3,_⟩:=hm.cell i _ hi
 refine⟨us,T,h1,h2,h3,h0,fun j u hu=>?_⟩
 rw [Zar,cell_of_row w _ j _ _ _ h1]
 simpa using hu
theorem Ag.row {i k:Nat} {l:List (Ty k)} (hm:Ag F h g M w) (hi:M i=some (.row k l)):l.length=(g i).n∧(((g i).nl=true∧l=[])∨((g i).nl=false∧∃ us sp,w.heap[(g i).b]? = some (.cells (us++sp).toArray k (0,0))∧Ar h l us∧(us++sp).length=(g i).c*Rep.sz (Ty k)∧(g i).n≤(g i).c∧(g i).c≤maxLen∧∀ (j:Nat)(u:Value),us[j]? = some u→w.cell? ⟨(g i).b,j,none⟩=some u)):=by
 obtain⟨h0,h1⟩:=hm.cell i _ hi
 refine⟨h0,?_⟩
 split at h1
 · rename_i hn; exact .inl ⟨hn,Za3 (by rw [h0,h1])⟩
 · rename_i hn
   obtain⟨us,sp,q1,q2,q3,q4,q5⟩:=h1
   refine .inr ⟨by simpa using hn,us,sp,q1,q2,q3,q4,q5,fun j u hu=>?_⟩
   rw [cell_of_row w _ j _ _ _ q1]
   simp only [Zbs]
   rw [Zau]
   · exact hu
   · rcases Za2 j us.length with h' | h'
     · exact h'
     · rw [Za0 h'] at hu; cases hu
theorem Ag.arr {i k:Nat} {l:List (Ty k)} (hm:Ag F h g M w) (hi:M i=some (.arr k l)):(g i).nl=false∧∃ us T,w.heap[(g i).b]? = some (.cells us.toArray T (0,0))∧Ar h l us∧∀ (j:Nat)(u:Value),us[j]? = some u→w.cell? ⟨(g i).b,j,none⟩=some u:=by
 obtain⟨h0,us,T,h1,h2⟩:=hm.cell i _ hi
 refine⟨h0,us,T,h1,h2,fun j u hu=>?_⟩
 rw [cell_of_row w _ j _ _ _ h1]
 simpa using hu
variable [UV Ty] [UL Ty]
theorem OL {E:Nat} (hh:J2 (Ty:=Ty) P E=true):Hg P E=some (Rep.sz (Ty E))∧0<Rep.sz (Ty E):=by
 unfold J2 at hh
 split at hh
 · rename_i n hn
   simp only [Zax] at hh
   have h1:n=UV.sz Ty E:=Zab hh.1
   have h2:0<n:=Zaf hh.2
   rw [hn,h1,UL.sz_eq]
   exact⟨rfl,by rw [← UL.sz_eq (Ty:=Ty),← h1]; exact h2⟩
 · cases hh
theorem Np {b o:Nat} {us:List Value} (hh:Ack h w) (h1:∀ u∈us,u.oneCell' = true) (hc:∀ (j:Nat)(u:Value),us[j]? = some u→h b (o+j)=some u) (j:Nat) (u:Value) (hu:us[j]? = some u):w.cell? ⟨b,o+j,none⟩=some u :=
 Ki (hh _ _ _ (hc j u hu)).2 (Dt (h1 u (Za4 hu)))
omit [RFs] in
theorem Ao {a b:Bool} (hh:(a && b)=true):a=true∧b=true:=by simpa using hh
theorem NT {T:TypeId} {p v:V Ty} {u:Value} (hm:Ag F h g M w) (hp:p.den g h u) (hr:(Sf P T M p 0).runK some=some v):∃ r,(Instr.loadAt T u).run P w=.ok r w∧v.den g h r:=by
 unfold Sf at hr
 split at hr
 · rename_i i off
   unfold V.den at hp
   subst hp
   simp only [Instr.loadAt,Instr.sureAddr,Sem.run_bind,Sem.run_pure,Result.andThen_ok]
   split at hr
   · rename_i cs hi
     rw [Tr.run_of] at hr
     obtain⟨us,T',h1,h2,h3,h4,h5⟩:=hm.blk hi
     have:=Ml (P:=P) h5 hr h2
     rwa [Zar] at this
   · rename_i k l hi
     split at hr
     · rename_i n E hT
       cases hc:(Nat.beq E k && Nat.beq (off+0) 0 && PC (Ty:=Ty) P T E n) with
       | false=>rw [hc] at hr; cases hr
       | true =>
        rw [hc] at hr
        obtain⟨hc,hs⟩:=Ao hc
        obtain⟨hE,ho⟩:=Ao hc
        have hE:=Zab hE
        have ho:=Zab ho
        subst hE
        simp only [Nat.add_zero] at ho
        subst ho
        simp only [Zac,Tr.runK_need] at hr
        cases hl:Nat.beq l.length n with
        | false=>rw [hl] at hr; cases hr
        | true =>
         rw [hl] at hr; cases hr
         have hl:=Zab hl
         unfold PC at hs
         split at hs
         · rename_i m hsz
           obtain⟨q1,q2⟩:=Ao hs
           have q1:=Zab q1
           have ha:Pz P T=some true:=by simp [Pz,hT]
           obtain⟨_,us,_,_,hu,hcell⟩:=hm.arr hi
           have hlen:us.length=m:=by rw [hu.len,q1,hl,UL.sz_eq]
           have:=run_loadCells_list (P:=P) w ⟨(g i).b,0,none⟩ us (fun j v hj=>by rw [Ng _ _ rfl]; simpa using hcell j v hj)
           rw [hlen] at this
           refine⟨.agg us.toArray,?_,?_⟩
           · simp only [loadVar,Sem.run_bind,Dr w ha,Result.andThen_ok,if_true,AW w hsz,this,Sem.run_pure]
           · unfold V.den; exact⟨us,rfl,hu⟩
         · cases hs
     · cases hr
   · cases hr
 · rename_i cs off
   unfold V.den at hp
   obtain⟨b,o,us,rfl,h1,h2,h3⟩:=hp
   simp only [Instr.loadAt,Instr.sureAddr,Sem.run_bind,Sem.run_pure,Result.andThen_ok]
   rw [Tr.run_of] at hr
   exact Ml (P:=P) (Np hm.has h2 h3) hr h1
 · rename_i k i j off
   unfold V.den at hp
   subst hp
   simp only [Instr.loadAt,Instr.sureAddr,Sem.run_bind,Sem.run_pure,Result.andThen_ok]
   split at hr
   · rename_i k' l hi
     split at hr
     · rename_i hk
       subst hk
       rw [Tr.runK_ask] at hr
       obtain⟨x,hx,hr⟩:=Zae.1 hr
       rw [Tr.run_of] at hr
       obtain⟨hn,hrow⟩:=hm.row hi
       rcases hrow with⟨_,rfl⟩ | ⟨_,us,sp,_,q3,_,_,_,q4⟩
       · simp at hx
       · obtain⟨cs,hcs,hget⟩:=Ar.get (fun _=>trivial) q3 (x:=x) (k:=j) hx
         exact Ml (P:=P) (o:=j*Rep.sz (Ty k')) (us:=cs) (fun a u hu=>q4 _ u (hget a u hu)) hr (UL.view_den g h k' x cs hcs)
     · cases hr
   · rename_i k' l hi
     split at hr
     · rename_i hk
       subst hk
       rw [Tr.runK_ask] at hr
       obtain⟨x,hx,hr⟩:=Zae.1 hr
       rw [Tr.run_of] at hr
       obtain⟨_,us,_,_,q3,q4⟩:=hm.arr hi
       obtain⟨cs,hcs,hget⟩:=Ar.get (fun _=>trivial) q3 (x:=x) (k:=j) hx
       exact Ml (P:=P) (o:=j*Rep.sz (Ty k')) (us:=cs) (fun a u hu=>q4 _ u (hget a u hu)) hr (UL.view_den g h k' x cs hcs)
     · cases hr
   · cases hr
 · cases hr
end
section
variable {Ty:Nat→Type} [rT:∀ k,Rep (Ty k)] [RFs] [UM Ty] [UML Ty] {P:Program} {F:Fr} {h:Ad} {g:GE} {M:Mo Ty} {w:World}
theorem HT (op:BinOp) (T:TypeId) (ox oy:Operand) (x y:Value) (w:World) (h1 : ¬ (x=.nilIface∧y=.nilIface)) (h2:∀ a b,¬ (x=.agg a∧y=.agg b)):(eqGuard op T ox oy x y).run P w=.ok () w:=by
 unfold eqGuard
 generalize (!(match op with | .eql=>true | .neq=>true | _=>false))=q
 cases q
 · simp only [Zaz,if_false]
   split
   · exact absurd ⟨rfl,rfl⟩ h1
   · exact absurd ⟨rfl,rfl⟩ (h2 _ _)
   · rfl
 · rfl
def isK:Operand→Bool
 | .const _=>true
 | _=>false
theorem Zl (op:BinOp) (T:TypeId) (ox oy:Operand) (w:World) (h1:isK oy=true):(eqGuard op T ox oy .nilIface .nilIface).run P w=.ok () w:=by
 unfold eqGuard
 generalize (!(match op with | .eql=>true | .neq=>true | _=>false))=q
 cases q
 · cases oy <;> first | cases h1 | skip
   simp
 · rfl
theorem Li {op:BinOp} {T:TypeId} {x y v:V Ty} {a b:Value} (w:World) (ox oy:Operand) (hn:x=.nili→y=.nili→isK oy=true) (hx:x.den g h a) (hy:y.den g h b) (hr:Rv P op T x y=some v) :
  ∃ r,(do eqGuard op T ox oy a b; binOp op T a b:Sem Value).run P w=.ok r w∧v.den g h r:=by
 unfold Rv at hr
 split at hr
 · rename_i k a1 k' b1
   unfold V.den at hx hy
   subst hx; subst hy
   have hg:=HT (P:=P) op T ox oy (.int k a1) (.int k' b1) w (by simp) (by simp)
   split at hr
   · rename_i hkk
     subst hkk
     simp only [Sem.run_bind,hg,Result.andThen_ok]
     split at hr
     all_goals first
      | (cases hr; exact⟨_,by simp [binOp,Op.intArith,Op.intCmp]; rfl,by unfold V.den; rfl⟩)
      | (cases hr; exact⟨_,by simp [binOp,Op.intArith,Op.intCmp]; rfl,by unfold V.den; rfl⟩)
      | (cases hr; done)
      | (split at hr
         · cases hr
           have hne : ¬ (Int.ofNat (‹Nat› + 1)=0):=by simp; omega
           refine⟨_,?_,by unfold V.den; rfl⟩
           simp [binOp,Op.intDiv]
           try omega
         · cases hr)
   · cases hr
 · rename_i a1 b1
   unfold V.den at hx hy
   subst hx; subst hy
   have hg:=HT (P:=P) op T ox oy (.bool a1) (.bool b1) w (by simp) (by simp)
   simp only [Sem.run_bind,hg,Result.andThen_ok]
   split at hr
   · rename_i hu
     split at hr
     · cases hr
       refine⟨.bool (a1 == b1),?_,by unfold V.den; rfl⟩
       show((do pure (.bool (← Op.equal T (.bool a1) (.bool b1))):Sem Value).run P w)=_
       simp only [Sem.run_bind,Jx a1 b1 w hu,Result.andThen_ok]
       rfl
     · cases hr
       refine⟨.bool (!(a1 == b1)),?_,by unfold V.den; rfl⟩
       show((do pure (.bool (!(← Op.equal T (.bool a1) (.bool b1)))):Sem Value).run P w)=_
       simp only [Sem.run_bind,Jx a1 b1 w hu,Result.andThen_ok]
       rfl
     · cases hr
   · cases hr
 · rename_i a1 b1
   unfold V.den at hx hy
   subst hx; subst hy
   have hg:=HT (P:=P) op T ox oy (.string a1) (.string b1) w (by simp) (by simp)
   simp only [Sem.run_bind,hg,Result.andThen_ok]
   split at hr
   · split at hr
     · cases hr
       refine⟨_,rfl,?_⟩
       unfold V.den
       rw [beq_toListBytes]
     · cases hr
       refine⟨_,rfl,?_⟩
       unfold V.den
       rw [beq_toListBytes]
     · cases hr
   · cases hr
 · rename_i t1 x1
   unfold V.den at hx hy
   obtain⟨u1,rfl,_⟩:=hx
   subst hy
   have hg:=HT (P:=P) op T ox oy (.iface t1 u1) .nilIface w (by simp) (by simp)
   simp only [Sem.run_bind,hg,Result.andThen_ok]
   split at hr
   · rename_i ms hu
     have he:(Op.equal T (.iface t1 u1) .nilIface).run P w=.ok false w:=run_equal_held_nil w T t1 u1 (by rw [hu]; simp [Program.methodsAt,hu])
     split at hr
     · cases hr
       refine⟨.bool false,?_,by unfold V.den; rfl⟩
       show((do pure (.bool (← Op.equal T (.iface t1 u1) .nilIface)):Sem Value).run P w)=_
       simp only [Sem.run_bind,he,Result.andThen_ok]
       rfl
     · cases hr
       refine⟨.bool true,?_,by unfold V.den; rfl⟩
       show((do pure (.bool (!(← Op.equal T (.iface t1 u1) .nilIface))):Sem Value).run P w)=_
       simp only [Sem.run_bind,he,Result.andThen_ok]
       rfl
     · cases hr
   · cases hr
 · unfold V.den at hx hy
   subst hx; subst hy
   have hg:=Zl (P:=P) op T ox oy w (hn rfl rfl)
   simp only [Sem.run_bind,hg,Result.andThen_ok]
   split at hr
   · rename_i ms hu
     have he:(Op.equal T .nilIface .nilIface).run P w=.ok true w:=run_equal_nil_nil w T (by rw [hu]; simp [Program.methodsAt,hu])
     split at hr
     · cases hr
       refine⟨.bool true,?_,by unfold V.den; rfl⟩
       show((do pure (.bool (← Op.equal T .nilIface .nilIface)):Sem Value).run P w)=_
       simp only [Sem.run_bind,he,Result.andThen_ok]
       rfl
     · cases hr
       refine⟨.bool false,?_,by unfold V.den; rfl⟩
       show((do pure (.bool (!(← Op.equal T .nilIface .nilIface))):Sem Value).run P w)=_
       simp only [Sem.run_bind,he,Result.andThen_ok]
       rfl
     · cases hr
   · cases hr
 · cases hr
theorem I0 {r:TypeId→List (V Ty)→List (V Ty)→Option Bool} (w:World) (d:Nat)
  (hr:∀ (T:TypeId)(xs ys:List (V Ty))(us vs:List Value)(b:Bool),V.dens g h xs us→V.dens g h ys vs→r T xs ys=some b→(Op.equalIn (d+1) T (.agg us.toArray) (.agg vs.toArray)).run P w=.ok b w)
  {xs ys:List (V Ty)} {us vs:List Value} (hx:V.dens g h xs us) (hy:V.dens g h ys vs):∀ {fs:List Field} {b:Bool},Zj P r xs ys fs=some b→(Op.eqFields (d+1) us.toArray vs.toArray fs).run P w=.ok b w
 | [],b,hh=>by cases hh; rfl
 | f::fs,b,hh=>by
  unfold Zj at hh
  split at hh
  · cases hh
  · rename_i hn
    split at hh
    · rename_i ha
      split at hh
      · rename_i k a k' c hxa hyc
        split at hh
        · rename_i k2 hu
          split at hh
          · rename_i hkk
            subst hkk
            split at hh
            · rename_i q hq
              cases hh
              obtain⟨u1,hu1,hd1⟩:=V.dens_get hx hxa
              obtain⟨u2,hu2,hd2⟩:=V.dens_get hy hyc
              unfold V.den at hd1 hd2
              subst hd1; subst hd2
              unfold Op.eqFields
              have h1:(part f.type us.toArray f.offset).run P w=.ok (.int k a) w:=by
               unfold part
               simp only [Sem.run_bind,Dr w ha,Result.andThen_ok,Zaz,if_false]
               simp [hu1]
              have h2:(part f.type vs.toArray f.offset).run P w=.ok (.int k c) w:=by
               unfold part
               simp only [Sem.run_bind,Dr w ha,Result.andThen_ok,Zaz,if_false]
               simp [hu2]
              rw [if_pos hn]
              simp only [Sem.run_bind,h1,h2,Result.andThen_ok,run_equalIn_int w d f.type k k2 a c hu]
              cases hac:(a == c)
              · simp
              · simp only [ZaM,Zaz,if_false,ZaS]
                exact I0 w d hr hx hy hq
            · cases hh
          · cases hh
        · cases hh
      · cases hh
    · rename_i ha
      split at hh
      · rename_i us' vs' hp1 hp2
        split at hh
        · rename_i p hp
          split at hh
          · rename_i q hq
            cases hh
            obtain⟨u1,hu1,hd1⟩:=J7 (P:=P) w hp1 hx
            obtain⟨u2,hu2,hd2⟩:=J7 (P:=P) w hp2 hy
            unfold V.den at hd1 hd2
            obtain⟨c1,rfl,hc1⟩:=hd1
            obtain⟨c2,rfl,hc2⟩:=hd2
            unfold Op.eqFields
            rw [if_pos hn]
            simp only [Sem.run_bind,hu1,hu2,Result.andThen_ok,hr f.type us' vs' c1 c2 p hc1 hc2 hp]
            cases p
            · simp
            · simp only [ZaM,Zaz,if_false,ZaS]
              exact I0 w d hr hx hy hq
          · cases hh
        · cases hh
      · cases hh
    · cases hh
theorem PK (w:World):∀ (k d:Nat)(T:TypeId)(xs ys:List (V Ty))(us vs:List Value)(b:Bool),V.dens g h xs us→V.dens g h ys vs→AcI P k T xs ys=some b→(Op.equalIn (d+k+1) T (.agg us.toArray) (.agg vs.toArray)).run P w=.ok b w
 | 0,d,T,xs,ys,us,vs,b,hx,hy,hh=>by cases hh
 | k+1,d,T,xs,ys,us,vs,b,hx,hy,hh=>by
  unfold AcI at hh
  split at hh
  · rename_i fs hT
    split at hh
    · rename_i h1
      have hF:P.fieldsOf T=fs:=by unfold Program.fieldsOf; rw [hT]
      rw [show d+(k+1)+1=(d+k+1)+1 from by omega,run_equalIn_struct w (d+k+1) T _ _ (by rw [hF]; exact hT) h1,hF]
      exact I0 w (d+k) (PK w k d) hx hy hh
    · cases hh
  · cases hh
theorem Zm {op:BinOp} {T:TypeId} {xs ys:List (V Ty)} {us vs:List Value} {c:V Ty} (w:World) (ox oy:Operand) (hx:V.dens g h xs us) (hy:V.dens g h ys vs) (hh:AeJ P op T xs ys=some c) :
  ∃ r,(do eqGuard op T ox oy (.agg us.toArray) (.agg vs.toArray); binOp op T (.agg us.toArray) (.agg vs.toArray):Sem Value).run P w=.ok r w∧c.den g h r:=by
 unfold AeJ at hh
 split at hh
 · rename_i fs hT
   split at hh
   · rename_i hg
     obtain⟨h1,h2⟩:=hg
     split at hh
     · rename_i b hb
       have hF:P.fieldsOf T=fs:=by unfold Program.fieldsOf; rw [hT]
       have hrun:(Op.equalIn 10000 T (.agg us.toArray) (.agg vs.toArray)).run P w=.ok b w:=by
        rw [show(10000:Nat)=9999+1 from rfl,run_equalIn_struct w 9999 T _ _ (by rw [hF]; exact hT) h1,hF]
        exact I0 w 9998 (PK w 3 9995) hx hy hb
       simp only [Sem.run_bind,run_eqGuard_agg w op T ox oy _ _ h2,Result.andThen_ok]
       split at hh
       · cases hh
         refine⟨.bool b,?_,by unfold V.den; rfl⟩
         rw [run_eql_struct,hrun]; rfl
       · cases hh
         refine⟨.bool !b,?_,by unfold V.den; rfl⟩
         rw [run_neq_struct,hrun]; rfl
       · cases hh
     · cases hh
   · cases hh
 · cases hh
end
theorem KD {α:Type}:∀ (us:List α)(p:Nat)(v:α),p<us.length→(us.set p v).take (p+1)=us.take p++[v]
 | [],p,v,h=>by simp at h
 | u::us,0,v,h=>by simp
 | u::us,p+1,v,h=>by simpa using KD us p v (by simpa using h)
theorem Mm {α:Type} (off:Nat):∀ (vs:List α)(k:Nat)(us:List α),off+k+vs.length≤us.length →
  (vs.zipIdx k).foldl (fun cs (x:α×Nat)=>cs.set (off+x.2) x.1) us=us.take (off+k)++vs++us.drop (off+k+vs.length)
 | [],k,us,h=>by simp
 | v::vs,k,us,h=>by
  simp only [Zas] at h
  simp only [List.zipIdx_cons,List.foldl_cons]
  rw [Mm off vs (k+1) _ (by simp; omega)]
  rw [show off+(k+1)=off+k+1 by omega,KD us (off+k) v (by omega),List.drop_set_of_lt (by omega)]
  simp only [Zas,ZaC,List.singleton_append,ZaP,Za6]
  congr 4
  omega
theorem Vk (us vs:List Value) (off:Nat) (hle:off+vs.length≤us.length) :
  vs.toArray.zipIdx.foldl (fun(cs:Array Value)(x:Value×Nat)=>cs.setIfInBounds (off+x.2) x.1) us.toArray=(us.take off++vs++us.drop (off+vs.length)).toArray:=by
 have h1:∀ (l:List (Value×Nat))(cs:List Value),l.foldl (fun(cs:Array Value)(x:Value×Nat)=>cs.setIfInBounds (off+x.2) x.1) cs.toArray=(l.foldl (fun cs (x:Value×Nat)=>cs.set (off+x.2) x.1) cs).toArray:=by
  intro l
  induction l with
  | nil=>intro cs; rfl
  | cons x l ih=>intro cs; simp only [List.foldl_cons,List.setIfInBounds_toArray]; exact ih _
 have h2:=Mm off vs 0 us (by simpa using hle)
 simp only [Nat.add_zero] at h2
 rw [← h2,← h1]
 simp
section
variable {Ty:Nat→Type} [rT:∀ k,Rep (Ty k)] [RFs] [UM Ty] [UML Ty] {P:Program} {F:Fr} {h:Ad} {g:GE} {M:Mo Ty} {w:World}
theorem Hp (place:Nat→Option (Nat×Nat)):∀ {ps:List (Nat×List (V Ty))} {pv:List (Nat×Value)} {cells out:List (V Ty)} {us:List Value},J1 place cells ps=some out→V.dens g h cells us →
  pv.length=ps.length→(∀ (j:Nat)(p:Nat×List (V Ty))(q:Nat×Value),ps[j]? = some p→pv[j]? = some q→p.1=q.1∧V.dens g h p.2 q.2.cells.toList)→∃ vs,Instr.fill place us.toArray pv=some vs.toArray∧V.dens g h out vs
 | [],pv,cells,out,us,hf,hd,hl,_=>by
  cases hf
  have:pv=[]:=Za3 hl
  subst this
  exact⟨us,rfl,hd⟩
 | (i,c)::ps,[],cells,out,us,hf,hd,hl,_=>by simp at hl
 | (i,c)::ps,(i',v)::pv,cells,out,us,hf,hd,hl,H=>by
  unfold J1 at hf
  obtain⟨h1,h2⟩:=H 0 _ _ rfl rfl
  simp only at h1 h2
  subst h1
  split at hf
  · cases hf
  · rename_i off size hp
    cases hb:(Nat.beq c.length size && Nat.ble (off+size) cells.length) with
    | false=>rw [hb] at hf; cases hf
    | true =>
     rw [hb] at hf
     obtain⟨b1,b2⟩:=Ao hb
     have b1:=Zab b1
     have b2:=Zaf b2
     have hvl:v.cells.size=c.length:=by rw [← ZaG,V.dens_len h2]
     have hul:us.length=cells.length:=V.dens_len hd
     have hd2:V.dens g h (cells.take off++c++cells.drop (off+c.length)) (us.take off++v.cells.toList++us.drop (off+v.cells.toList.length)):=by
      rw [show v.cells.toList.length=c.length by rw [ZaG,hvl]]
      exact V.dens_append (V.dens_append (V.dens_take off hd) h2) (V.dens_drop _ hd)
     obtain⟨vs,q1,q2⟩:=Hp place hf hd2 (by simpa using hl) (fun j p q hp hq=>H (j+1) p q (by simpa using hp) (by simpa using hq))
     refine⟨vs,?_,q2⟩
     unfold Instr.fill
     simp only [hp]
     rw [if_neg (by simp [hvl,hul]; omega)]
     rw [← q1]
     congr 1
     have:=Vk us v.cells.toList off (by rw [ZaG,hvl,hul]; omega)
     rw [ZaX] at this
     exact this
def Lj (g:GE) (h:Ad) (ev:Operand→Option (V Ty)) (a:Act):Prop:=∀ x v,ev x=some v→v.den g h (a.eval x)
theorem Ko {ev:Operand→Option (V Ty)} {a:Act} (he:Lj g h ev a):∀ {l:List (Nat×Operand)} {ps:List (Nat×List (V Ty))},BQ.psV ev l=some ps →
  l.length=ps.length∧∀ (j:Nat)(p:Nat×List (V Ty))(q:Nat×Value),ps[j]? = some p→(l.map fun x=>(x.1,a.eval x.2))[j]? = some q→p.1=q.1∧V.dens g h p.2 q.2.cells.toList
 | [],ps,hh=>by unfold BQ.psV at hh; cases hh; exact⟨rfl,by simp⟩
 | (i,x)::r,ps,hh=>by
  unfold BQ.psV at hh
  split at hh
  · rename_i v hv
    split at hh
    · rename_i cs hcs
      split at hh
      · rename_i vs hvs
        cases hh
        obtain⟨h1,h2⟩:=Ko he hvs
        refine⟨by simp [h1],fun j p q hp hq=>?_⟩
        cases j with
        | zero=>simp at hp hq; subst hp; subst hq; exact⟨rfl,V.den_cells (he x v hv) hcs⟩
        | succ j=>exact h2 j p q (by simpa using hp) (by simpa using hq)
      · cases hh
    · cases hh
  · cases hh
theorem Kp {ev:Operand→Option (V Ty)} {a:Act} (he:Lj g h ev a):∀ {l:List Operand} {vs:List (V Ty)},BQ.lsV ev l=some vs→V.dens g h vs (l.map a.eval)
 | [],vs,hh=>by unfold BQ.lsV at hh; cases hh; unfold V.dens; rfl
 | x::r,vs,hh=>by
  unfold BQ.lsV at hh
  split at hh
  · rename_i v hv
    split at hh
    · rename_i ws hws
      cases hh
      unfold V.dens
      exact⟨_,_,rfl,he x v hv,Kp he hws⟩
    · cases hh
  · cases hh
theorem F0.part {α:Type} [Rep α] {a:Option Addr} {c sz:Nat} {xs:List α} (lo n:Nat) (hs:Rep.sz α=sz) (hr:F0 h a c xs) (hle:lo+n≤xs.length):F0 h (Me sz a c lo) (c-lo) ((xs.drop lo).take n):=by
 obtain⟨vs,h1,h2,h3⟩:=hr.drop hs (n:=lo) (by omega)
 refine⟨_,h1.take n,fun o x hx=>?_,by rw [ZaU]; omega⟩
 rw [List.getElem?_take] at hx
 split at hx
 · exact h2 o x hx
 · cases hx
variable [UV Ty] [UL Ty]
omit [RFs] [UM Ty] [UML Ty] in
theorem Nq {i sz:Nat} {n:Int} {v:V Ty}:∀ {m j:Nat},(GM.brN i sz n j m).runK some=some v→∃ q:Nat,n=(q:Int)∧j≤q∧q<j+m∧v=V.ptr i (q*sz)
 | 0,j,hr=>by cases hr
 | m+1,j,hr=>by
  unfold GM.brN at hr
  rw [Tr.runK_br] at hr
  cases hb:(n == (j:Int)) with
  | true =>
   rw [hb] at hr; cases hr
   exact⟨j,by simpa using hb,Zal _,by omega,rfl⟩
  | false =>
   rw [hb] at hr
   obtain⟨q,h1,h2,h3,h4⟩:=Nq hr
   exact⟨q,h1,by omega,by omega,h4⟩
theorem PL {T:TypeId} {x v:V Ty} {u:Value} {k:IntKind} {n:Int} (hm:Ag F h g M w) (hx:x.den g h u) (hr:(GM P T M x n).runK some=some v):∃ r,(Instr.indexAt T u (.int k n)).run P w=.ok r w∧v.den g h r:=by
 unfold GM at hr
 split at hr
 · rename_i k' l
   split at hr
   · rename_i E hT
     cases hb:(Nat.beq E k' && J2 (Ty:=Ty) P E) with
     | false=>rw [hb] at hr; cases hr
     | true =>
      rw [hb] at hr
      obtain⟨b1,b2⟩:=Ao hb
      have b1:=Zab b1
      subst b1
      rw [Zac,Tr.runK_ask] at hr
      obtain⟨y,hy,hr⟩:=Zae.1 hr
      cases hr
      obtain⟨h0,h1,h2⟩:=P8 hy
      obtain⟨s1,s2⟩:=OL b2
      unfold V.den at hx
      obtain⟨a,c,rfl,hrep⟩:=hx
      obtain⟨b,o,cs,rfl,hcs,hget⟩:=hrep.get s2 h2
      refine⟨_,Nh hT s1 h0 h1,?_⟩
      unfold V.den
      exact⟨b,_,cs,rfl,UL.view_den g h E y cs hcs,Rep.one hcs,fun j u hu=>hget j u hu⟩
   · cases hr
 · rename_i k' i
   split at hr
   · rename_i E k2 l hT hi
     cases hb:(Nat.beq E k' && Nat.beq k2 k' && J2 (Ty:=Ty) P E) with
     | false=>rw [hb] at hr; cases hr
     | true =>
      rw [hb] at hr
      obtain⟨b1,b2⟩:=Ao hb
      obtain⟨b1,b3⟩:=Ao b1
      have b1:=Zab b1
      have b3:=Zab b3
      subst b1; subst b3
      rw [Zac,Tr.runK_ask] at hr
      obtain⟨y,hy,hr⟩:=Zae.1 hr
      cases hr
      obtain⟨h0,h1,h2⟩:=P8 hy
      obtain⟨s1,s2⟩:=OL b2
      unfold V.den at hx
      obtain⟨hn,hrow⟩:=hm.row hi
      rcases hrow with⟨_,rfl⟩ | ⟨hnl,_⟩
      · simp at h2
      · rw [hnl] at hx
        simp only [Zaz,if_false] at hx
        subst hx
        refine⟨_,Nh hT s1 h0 (by rw [← hn]; exact h1),?_⟩
        unfold V.den
        simp
   · cases hr
 · rename_i i off
   split at hr
   · rename_i m E k2 l hT hi
     cases hb:(Nat.beq E k2 && Nat.beq off 0 && J2 (Ty:=Ty) P E) with
     | false=>rw [hb] at hr; cases hr
     | true =>
      rw [hb] at hr
      obtain⟨b1,b2⟩:=Ao hb
      obtain⟨b1,b3⟩:=Ao b1
      have b1:=Zab b1
      have b3:=Zab b3
      subst b1; subst b3
      rw [Zac,Tr.runK_need] at hr
      cases hl:Nat.beq l.length m with
      | false=>rw [hl] at hr; cases hr
      | true =>
       rw [hl,Zac,Tr.runK_ask] at hr
       have hl:=Zab hl
       obtain⟨y,hy,hr⟩:=Zae.1 hr
       cases hr
       obtain⟨h0,h1,h2⟩:=P8 hy
       obtain⟨s1,s2⟩:=OL b2
       unfold V.den at hx
       subst hx
       refine⟨.pointer (some ⟨(g i).b,0+n.toNat*Rep.sz (Ty E),none⟩),?_,?_⟩
       · unfold Instr.indexAt
         have hm':n<(m:Int):=by rw [← hl]; exact h1
         simp only [asIntOf,Instr.sureAddr,Sem.run_bind,Sem.run_pure,Result.andThen_ok,run_underlying hT]
         rw [if_pos ⟨h0,hm'⟩]
         simp only [Sem.run_bind,AW w s1,Result.andThen_ok,Sem.run_pure]
         rw [Ng _ _ rfl]
       · unfold V.den; simp
   · cases hr
 · rename_i i m
   split at hr
   · rename_i E hT
     split at hr
     · rename_i sz hsz
       obtain⟨q,rfl,_,h2,rfl⟩:=Nq hr
       unfold V.den at hx
       subst hx
       refine⟨_,Nh hT hsz (by omega) (by omega),?_⟩
       unfold V.den
       simp
     · cases hr
   · cases hr
 · cases hr
def GP (g:GE) (h:Ad):Option (V Ty)→Option Value→Prop
 | none,z=>z=none
 | some y,z=>∃ u,z=some u∧y.den g h u
theorem Xd {T:TypeId} {x v:V Ty} {u:Value} {lo hi:Option (V Ty)} {lu hu:Option Value} (w:World) (hx:x.den g h u) (hl:GP g h lo lu) (hh:GP g h hi hu) (hr:(AaR P T x lo hi).runK some=some v):∃ r,(Instr.sliceAt T u lu hu none).run P w=.ok r w∧v.den g h r:=by
 have strOk:∀ {s y:ByteArray} {l r:Int},PD s l r=some y→0≤l∧l≤r∧r≤s.size∧y=s.extract l.toNat r.toNat:=fun {s y l r} hs=>by
  unfold PD at hs
  split at hs
  · rename_i hc; cases hs; exact⟨hc.1,hc.2.1,hc.2.2,rfl⟩
  · cases hs
 have lstOk:∀ {α:Type} {s y:List α} {l r:Int},H5 s l r=some y→0≤l∧l≤r∧r≤s.length∧y=(s.drop l.toNat).take (r.toNat-l.toNat):=fun {α s y l r} hs=>by
  unfold H5 at hs
  split at hs
  · rename_i hc; cases hs; exact⟨hc.1,hc.2.1,hc.2.2,rfl⟩
  · cases hs
 unfold AaR at hr
 split at hr
 · rename_i s
   unfold V.den at hx
   subst hx
   split at hr
   · rename_i hT
     split at hr
     · cases hr
       simp only [GP] at hl hh
       subst hl; subst hh
       refine⟨.string (s.extract 0 s.size),?_,by unfold V.den; simp⟩
       simp [Instr.sliceAt,Instr.slice,Instr.sliceBounds,run_underlying hT]
     · rename_i l
       rw [Tr.runK_ask] at hr
       obtain⟨y,hy,hr⟩:=Zae.1 hr
       cases hr
       obtain⟨h1,h2,h3,rfl⟩:=strOk hy
       simp only [GP] at hl hh
       obtain⟨z,rfl,hz⟩:=hl
       subst hh
       unfold V.den at hz
       subst hz
       refine⟨_,?_,by unfold V.den; rfl⟩
       simp [Instr.sliceAt,Instr.slice,Instr.sliceBounds,Instr.sliceBound,asIntOf,run_underlying hT,h1,h2]
     · rename_i r
       rw [Tr.runK_ask] at hr
       obtain⟨y,hy,hr⟩:=Zae.1 hr
       cases hr
       obtain⟨h1,h2,h3,rfl⟩:=strOk hy
       simp only [GP] at hl hh
       obtain⟨z,rfl,hz⟩:=hh
       subst hl
       unfold V.den at hz
       subst hz
       refine⟨_,?_,by unfold V.den; rfl⟩
       simp [Instr.sliceAt,Instr.slice,Instr.sliceBounds,Instr.sliceBound,asIntOf,run_underlying hT,h2,h3]
     · rename_i l r
       rw [Tr.runK_ask] at hr
       obtain⟨y,hy,hr⟩:=Zae.1 hr
       cases hr
       obtain⟨h1,h2,h3,rfl⟩:=strOk hy
       simp only [GP] at hl hh
       obtain⟨z,rfl,hz⟩:=hl
       obtain⟨z',rfl,hz'⟩:=hh
       unfold V.den at hz hz'
       subst hz; subst hz'
       have hr0:0≤r:=by omega
       have hlr:l≤(r.toNat:Int):=by omega
       refine⟨_,?_,by unfold V.den; rfl⟩
       simp [Instr.sliceAt,Instr.slice,Instr.sliceBounds,Instr.sliceBound,asIntOf,run_underlying hT,h1,h3,hr0]
       omega
     · cases hr
   · cases hr
 · rename_i k xs
   split at hr
   · rename_i E hT
     cases hb:(Nat.beq E k && J2 (Ty:=Ty) P E) with
     | false=>rw [hb] at hr; cases hr
     | true =>
      rw [hb,Zac] at hr
      obtain⟨b1,b2⟩:=Ao hb
      have b1:=Zab b1
      subst b1
      obtain⟨s1,s2⟩:=OL b2
      unfold V.den at hx
      obtain⟨a,c,rfl,hrep⟩:=hx
      have hc:xs.length≤c:=by obtain⟨_,_,_,hc⟩:=hrep; exact hc
      split at hr
      · cases hr
        simp only [GP] at hl hh
        subst hl; subst hh
        have hp:=hrep.part 0 xs.length rfl (by omega)
        refine⟨.slice (Me (Rep.sz (Ty E)) a c 0) (xs.length-0) (c-0),?_,?_⟩
        · simp [Instr.sliceAt,Instr.slice,Instr.sliceBounds,run_underlying hT,AW w s1,Me]
        · unfold V.den
          refine⟨_,_,rfl,?_⟩
          simpa using hp
      · rename_i l
        rw [Tr.runK_ask] at hr
        obtain⟨y,hy,hr⟩:=Zae.1 hr
        cases hr
        obtain⟨h1,h2,h3,rfl⟩:=lstOk hy
        simp only [GP] at hl hh
        obtain⟨z,rfl,hz⟩:=hl
        subst hh
        unfold V.den at hz
        subst hz
        have hp:=hrep.part l.toNat (xs.length-l.toNat) rfl (by omega)
        refine⟨.slice (Me (Rep.sz (Ty E)) a c l.toNat) (xs.length-l.toNat) (c-l.toNat),?_,?_⟩
        · simp [Instr.sliceAt,Instr.slice,Instr.sliceBounds,Instr.sliceBound,asIntOf,run_underlying hT,AW w s1,h1,h2]
          rfl
        · unfold V.den
          refine⟨_,_,?_,hp⟩
          simp
      · rename_i r
        rw [Tr.runK_ask] at hr
        obtain⟨y,hy,hr⟩:=Zae.1 hr
        cases hr
        obtain⟨h1,h2,h3,rfl⟩:=lstOk hy
        simp only [GP] at hl hh
        obtain⟨z,rfl,hz⟩:=hh
        subst hl
        unfold V.den at hz
        subst hz
        have hrc:r≤(c:Int):=by omega
        have hp:=hrep.part 0 r.toNat rfl (by omega)
        refine⟨.slice (Me (Rep.sz (Ty E)) a c 0) (r.toNat-0) (c-0),?_,?_⟩
        · simp [Instr.sliceAt,Instr.slice,Instr.sliceBounds,Instr.sliceBound,asIntOf,run_underlying hT,AW w s1,h2,hrc,Me]
        · unfold V.den
          refine⟨_,_,?_,hp⟩
          simp
          omega
      · rename_i l r
        rw [Tr.runK_ask] at hr
        obtain⟨y,hy,hr⟩:=Zae.1 hr
        cases hr
        obtain⟨h1,h2,h3,rfl⟩:=lstOk hy
        simp only [GP] at hl hh
        obtain⟨z,rfl,hz⟩:=hl
        obtain⟨z',rfl,hz'⟩:=hh
        unfold V.den at hz hz'
        subst hz; subst hz'
        have hrc:r≤(c:Int):=by omega
        have hr0:0≤r:=by omega
        have hlr:l≤max r 0:=by omega
        have hp:=hrep.part l.toNat (r.toNat-l.toNat) rfl (by omega)
        refine⟨.slice (Me (Rep.sz (Ty E)) a c l.toNat) (r.toNat-l.toNat) (c-l.toNat),?_,?_⟩
        · simp [Instr.sliceAt,Instr.slice,Instr.sliceBounds,Instr.sliceBound,asIntOf,run_underlying hT,AW w s1,h1,hr0,hrc,hlr]
          rfl
        · unfold V.den
          refine⟨_,_,?_,hp⟩
          simp
          omega
      · cases hr
   · cases hr
 · cases hr
end
section
variable {Ty:Nat→Type} [rT:∀ k,Rep (Ty k)] [RFs] [UM Ty] [UML Ty] {P:Program} {F:Fr} {h:Ad} {g:GE} {M:Mo Ty} {w:World} [UV Ty] [UL Ty]
theorem PM {ev:Operand→Option (V Ty)} {a:Act} (he:Lj g h ev a) {x:Option Operand} {l:Option (V Ty)} (hh:BQ.optV ev x=some l):GP g h l (x.map a.eval):=by
 unfold BQ.optV at hh
 cases x with
 | none=>cases hh; rfl
 | some x =>
  simp only at hh
  split at hh
  · rename_i v hv
    cases hh
    exact⟨_,rfl,he x v hv⟩
  · cases hh
theorem PN {a:Act} {o:Oper} {b:Builtin} {args:Array Operand} {tys:Array TypeId} (hop:o.op=.call ⟨.builtin b,args,tys⟩):execOp a.eval o=(do let d←resolve a.eval ⟨.builtin b,args,tys⟩ o.type; invoke d.target d.args):=by
 unfold execOp; simp only [hop]
theorem Tl {ev:Operand→Option (V Ty)} {a:Act} {o:Oper} {op:Op} (hop:o.op=op) (hm:Ag F h g M w) (he:Lj g h ev a) {v:V Ty} (hr:(BQ P ev M op).runK some=some v):∃ u,(execOp a.eval o).run P w=.ok (.value u) w∧v.den g h u:=by
 unfold execOp
 rw [hop]
 unfold BQ at hr
 split at hr
 · rename_i x
   rw [Tr.run_of] at hr
   exact⟨_,rfl,he x v hr⟩
 · rename_i x
   rw [Tr.run_of] at hr
   exact⟨_,rfl,he x v hr⟩
 · rename_i c x y
   split at hr
   · rename_i t hc
     have hce:=he c _ hc
     unfold V.den at hce
     split at hr
     · rw [Tr.run_of] at hr
       exact⟨_,by simp only [hce]; rfl,he x v hr⟩
     · rw [Tr.run_of] at hr
       exact⟨_,by simp only [hce]; rfl,he y v hr⟩
   · cases hr
 · rename_i t x
   split at hr
   · rename_i p hp
     obtain⟨r,h1,h2⟩:=NT hm (he x p hp) hr
     exact⟨r,by simp only [Sem.run_bind,h1,Result.andThen_ok,Sem.run_pure],h2⟩
   · cases hr
 · rename_i bop t x y yt
   have fin:∀ {a1 b1:V Ty} {r:Value},(do eqGuard bop t x y (a.eval x) (a.eval y); binOp bop t (a.eval x) (a.eval y):Sem Value).run P w=.ok r w→(do let y←(do eqGuard bop t x y (a.eval x) (a.eval y); binOp bop t (a.eval x) (a.eval y):Sem Value); pure (Next.value y):Sem Next).run P w=.ok (.value r) w:=fun {a1 b1 r} hh=>by
    rw [Sem.run_bind,hh]; rfl
   split at hr
   · rename_i xs ys hx hy
     rw [Tr.run_of] at hr
     have h1:=he x _ hx
     have h2:=he y _ hy
     unfold V.den at h1 h2
     obtain⟨us,e1,h1⟩:=h1
     obtain⟨vs,e2,h2⟩:=h2
     obtain⟨r,q1,q2⟩:=Zm w x y h1 h2 hr
     rw [← e1,← e2] at q1
     exact⟨r,fin (a1:=.nili) (b1:=.nili) q1,q2⟩
   · rename_i s1 s2 hx hy
     split at hr
     · rw [Tr.runK_ask] at hr
       obtain⟨z,hz,hr⟩:=Zae.1 hr
       cases hr
       unfold Bf at hz
       split at hz
       · rename_i hle
         cases hz
         have h1:=he x _ hx
         have h2:=he y _ hy
         unfold V.den at h1 h2
         refine⟨.string (s1++s2),?_,by unfold V.den; rfl⟩
         refine fin (a1:=.nili) (b1:=.nili) ?_
         have hg:=HT (P:=P) .add t x y (.string s1) (.string s2) w (by simp) (by simp)
         rw [h1,h2]
         simp only [Sem.run_bind,hg,Result.andThen_ok]
         have : ¬ (((s1.size+s2.size:Nat):Int)>IntKind.i64.max):=by
          have:IntKind.i64.max=9223372036854775807:=by decide
          rw [this]; omega
         simp only [binOp,Op.stringOp,if_neg this]
         rfl
       · cases hz
     · rw [Tr.run_of] at hr
       obtain⟨r,q1,q2⟩:=Li (P:=P) w x y (fun h=>by cases h) (he x _ hx) (he y _ hy) hr
       exact⟨r,fin (a1:=.nili) (b1:=.nili) q1,q2⟩
   · rename_i hx hy
     split at hr
     · rw [Tr.run_of] at hr
       obtain⟨r,q1,q2⟩:=Li (P:=P) w x (.const _) (fun _ _=>rfl) (he x _ hx) (he _ _ hy) hr
       exact⟨r,fin (a1:=.nili) (b1:=.nili) q1,q2⟩
     · cases hr
   · rename_i a1 b1 n1 n2 n3 hx hy
     replace hr:=Vj hr
     obtain⟨r,q1,q2⟩:=Li (P:=P) w x y (fun e1 e2=>absurd e2 (n3 e1)) (he x _ hx) (he y _ hy) hr
     exact⟨r,fin (a1:=.nili) (b1:=.nili) q1,q2⟩
   · cases hr
 · rename_i uop t x
   split at hr
   · rename_i b hx
     cases hr
     have h1:=he x _ hx
     unfold V.den at h1
     exact⟨.bool !b,by simp [h1,Op.unary],by unfold V.den; rfl⟩
   · rename_i k n hx
     cases hr
     have h1:=he x _ hx
     unfold V.den at h1
     exact⟨.int k (k.wrap (0-n)),by simp [h1,Op.unary,Op.intArith],by unfold V.den; rfl⟩
   · cases hr
 · rename_i src dst x
   split at hr
   · rename_i k1 k k2 n hs hd hx
     cases hr
     have h1:=he x _ hx
     unfold V.den at h1
     refine⟨.int k (k.wrap n),?_,by unfold V.den; rfl⟩
     simp only [h1,convert,Sem.run_bind,run_underlying hs,run_underlying hd,Result.andThen_ok,Conv.intToInt]
     rfl
   · cases hr
 · rename_i t x f
   split at hr
   · rename_i fs hs
     split at hr
     · rename_i fl hf
       split at hr
       · rename_i n hn
         have key:∀ b o,a.eval x=.pointer (some ⟨b,o,none⟩)→(do let y←Instr.fieldAt t (a.eval x) f; pure (Next.value y):Sem Next).run P w=.ok (.value (.pointer (some ⟨b,o+fl.offset,none⟩))) w:=fun b o hb=>by
          simp only [hb,Instr.fieldAt,Instr.sureAddr,Sem.run_bind,run_underlying hs,Result.andThen_ok,hf,Sem.run_pure,fieldPlace,AW w hn]
          simp [Addr.add]
         split at hr
         · rename_i i off hx
           cases hr
           have h1:=he x _ hx
           unfold V.den at h1
           exact⟨_,key _ _ h1,by unfold V.den; rfl⟩
         · rename_i cs off hx
           cases hr
           have h1:=he x _ hx
           unfold V.den at h1
           obtain⟨b,o,us,h1,h2⟩:=h1
           exact⟨_,key _ _ h1,by unfold V.den; exact⟨b,o,us,by rw [Zbk],h2⟩⟩
         · rename_i k i j off hx
           cases hr
           have h1:=he x _ hx
           unfold V.den at h1
           exact⟨_,key _ _ h1,by unfold V.den; rw [Zbk]⟩
         · cases hr
       · cases hr
     · cases hr
   · cases hr
 · rename_i t x f
   split at hr
   · rename_i fs cs hs hx
     split at hr
     · rename_i fl hf
       rw [Tr.run_of] at hr
       have h1:=he x _ hx
       unfold V.den at h1
       obtain⟨us,h1,h2⟩:=h1
       obtain⟨r,q1,q2⟩:=J7 w hr h2
       refine⟨r,?_,q2⟩
       simp only [h1,Instr.field,asAgg,Sem.run_bind,run_underlying hs,Result.andThen_ok,hf,Sem.run_pure,q1]
     · cases hr
   · cases hr
 · rename_i t ps
   split at hr
   · rename_i z hz
     obtain⟨zv,hzv,hzc,_⟩:=FV (g:=g) (h:=h) w hz
     split at hr
     · rename_i fs hs
       split at hr
       · rename_i pc vs hpc hvs
         split at hr
         · rename_i cs hcs
           cases hr
           obtain⟨l1,l2⟩:=Ko he hvs
           obtain⟨us,q1,q2⟩:=Hp _ (pv:=ps.toList.map fun x=>(x.1,a.eval x.2)) hcs hzc (by simp [l1]) l2
           have h2:=Mc w hpc
           have h3:(Array.mapM (fun f=>(do pure (f.offset,← sizeOf f.type):Sem (Nat×Nat))) fs).run P w=.ok pc.toArray w:=by
            rw [← ZaX (xs:=fs),List.mapM_toArray]
            simp only [Sem.run_map,h2,Result.andThen_ok]
           refine⟨.agg us.toArray,?_,by unfold V.den; exact⟨us,rfl,q2⟩⟩
           simp only [Instr.build,Sem.run_bind,hzv,Result.andThen_ok,run_underlying hs,h3]
           have h5:(Array.map (fun x=>(x.1,a.eval x.2)) ps).toList=ps.toList.map fun x=>(x.1,a.eval x.2):=by simp
           rw [ZaX] at q1
           have q1':Instr.fill (fun i=>pc.toArray[i]?) zv.cells (ps.toList.map fun x=>(x.1,a.eval x.2))=some us.toArray:=by
            rw [← q1]; congr 1; funext i; simp
           simp only [h5,q1']
           rfl
         · cases hr
       · cases hr
     · rename_i q E hs
       split at hr
       · rename_i sz vs hsz hvs
         split at hr
         · rename_i cs hcs
           cases hr
           obtain⟨l1,l2⟩:=Ko he hvs
           obtain⟨us,q1,q2⟩:=Hp _ (pv:=ps.toList.map fun x=>(x.1,a.eval x.2)) hcs hzc (by simp [l1]) l2
           refine⟨.agg us.toArray,?_,by unfold V.den; exact⟨us,rfl,q2⟩⟩
           simp only [Instr.build,Sem.run_bind,hzv,Result.andThen_ok,run_underlying hs,AW w hsz]
           have h5:(Array.map (fun x=>(x.1,a.eval x.2)) ps).toList=ps.toList.map fun x=>(x.1,a.eval x.2):=by simp
           rw [ZaX] at q1
           simp only [h5,q1]
           rfl
         · cases hr
       · cases hr
     · cases hr
   · cases hr
 · rename_i x ix
   split at hr
   · rename_i vs hx
     rw [Tr.run_of] at hr
     have h1:=he x _ hx
     unfold V.den at h1
     obtain⟨us,h1,h2⟩:=h1
     obtain⟨u,hu,hv⟩:=V.dens_get h2 hr
     refine⟨u,?_,hv⟩
     simp [h1,Instr.extract,hu]
   · cases hr
 · rename_i x
   split at hr
   · rename_i i off hx
     cases hr
     have h1:=he x _ hx
     have h2:=h1
     unfold V.den at h1
     exact⟨_,by simp only [h1]; rfl,by rw [← h1]; exact h2⟩
   · rename_i cs off hx
     cases hr
     have h1:=he x _ hx
     have h2:=h1
     unfold V.den at h1
     obtain⟨b,o,us,h1,_⟩:=h1
     exact⟨_,by simp only [h1]; rfl,by rw [← h1]; exact h2⟩
   · rename_i k i j off hx
     cases hr
     have h1:=he x _ hx
     have h2:=h1
     unfold V.den at h1
     exact⟨_,by simp only [h1]; rfl,by rw [← h1]; exact h2⟩
   · cases hr
 · rename_i t x i
   split at hr
   · rename_i x' k n hx hi
     have h1:=he i _ hi
     unfold V.den at h1
     obtain⟨r,q1,q2⟩:=PL (k:=k) hm (he x _ hx) hr
     exact⟨r,by simp only [h1,Sem.run_bind,q1,Result.andThen_ok,Sem.run_pure],q2⟩
   · cases hr
 · rename_i t x i
   split at hr
   · rename_i s k n hT hx hi
     rw [Tr.runK_ask] at hr
     obtain⟨c,hc,hr⟩:=Zae.1 hr
     cases hr
     have h1:=he i _ hi
     have h2:=he x _ hx
     unfold V.den at h1 h2
     unfold Ad1 at hc
     split at hc
     · rename_i m
       split at hc
       · rename_i hlt
         cases hc
         refine⟨_,?_,by unfold V.den; rfl⟩
         simp only [h1,h2,Instr.index,asIntOf,Sem.run_bind,Sem.run_pure,Result.andThen_ok,run_underlying hT]
         simp [hlt]
       · cases hc
     · cases hc
   · cases hr
 · rename_i t x lo hi
   split at hr
   · rename_i x' l r hx hl hh
     obtain⟨q,q1,q2⟩:=Xd w (he x _ hx) (PM he hl) (PM he hh) hr
     refine⟨q,?_,q2⟩
     simp only [Option.map_none,Sem.run_bind,q1,Result.andThen_ok,Sem.run_pure]
   · cases hr
 · rename_i t x
   split at hr
   · cases hr
   · rename_i d hT hd
     split at hr
     · rename_i v' hv
       cases hr
       refine⟨.iface t (a.eval x),?_,by unfold V.den; exact⟨_,rfl,he x _ hv⟩⟩
       simp only [Instr.makeInterface,Sem.run_bind,run_underlying hd,Result.andThen_ok]
       cases d <;> first | exact absurd hd (hT _) | rfl
     · cases hr
   · cases hr
 · rename_i f first cap
   split at hr
   · rename_i as bs h1 h2
     cases hb:Nat.blt f An with
     | false=>rw [hb] at hr; cases hr
     | true =>
     rw [hb,Zac] at hr
     cases hr
     refine⟨.func (.func f) (first.map a.eval) (cap.map a.eval),?_,?_⟩
     · simp only [Instr.makeFunc]
       rfl
     · unfold V.den
       exact⟨first.toList.map a.eval,cap.toList.map a.eval,by rw [PA hb,← Array.toList_map,← Array.toList_map],Kp he h1,Kp he h2⟩
   · cases hr
 · rename_i args tys
   have hX:=PN (a:=a) hop
   unfold execOp at hX
   rw [hop] at hX
   rw [hX]
   split at hr
   · rename_i x t ha ht
     have ha:=G5 ha
     have ht:=G5 ht
     subst ha; subst ht
     split at hr
     · rename_i k l hT hx
       cases hr
       have h1:=he x _ hx
       unfold V.den at h1
       obtain⟨ad,c,h1,_⟩:=h1
       refine⟨.int .i64 (l.length:Nat),?_,by unfold V.den; rfl⟩
       simp [resolve,invoke,builtin,Builtin.len_,h1,run_underlying hT,goInt]
     · rename_i hT hx
       cases hr
       have h1:=he x _ hx
       unfold V.den at h1
       refine⟨.int .i64 0,?_,by unfold V.den; rfl⟩
       simp [resolve,invoke,builtin,Builtin.len_,h1,run_underlying hT,goInt]
     · rename_i k i hT hx
       split at hr
       · rename_i k' l hi
         cases hb:Nat.beq k' k with
         | false=>rw [hb] at hr; cases hr
         | true =>
          rw [hb] at hr
          cases hr
          have h1:=he x _ hx
          unfold V.den at h1
          obtain⟨hn,hrow⟩:=hm.row hi
          refine⟨.int .i64 (l.length:Nat),?_,by unfold V.den; rfl⟩
          rcases hrow with⟨hnl,rfl⟩ | ⟨hnl,_⟩
          · rw [hnl] at h1
            simp only [if_true] at h1
            simp [resolve,invoke,builtin,Builtin.len_,h1,run_underlying hT,goInt]
          · rw [hnl] at h1
            simp only [Zaz,if_false] at h1
            simp [resolve,invoke,builtin,Builtin.len_,h1,run_underlying hT,goInt,hn]
       · cases hr
     · rename_i i n hT hx
       cases hr
       have h1:=he x _ hx
       unfold V.den at h1
       refine⟨.int .i64 (n:Nat),?_,by unfold V.den; rfl⟩
       simp [resolve,invoke,builtin,Builtin.len_,h1,run_underlying hT,goInt]
     · rename_i s hT hx
       cases hr
       have h1:=he x _ hx
       unfold V.den at h1
       refine⟨.int .i64 (s.size:Nat),?_,by unfold V.den; rfl⟩
       simp [resolve,invoke,builtin,Builtin.len_,h1,run_underlying hT,goInt]
     · cases hr
   · cases hr
 · rename_i args tys
   have hX:=PN (a:=a) hop
   unfold execOp at hX
   rw [hop] at hX
   rw [hX]
   split at hr
   · rename_i x y ha
     have ha:=G5 ha
     subst ha
     split at hr
     · rename_i k m k' n hx hy
       cases hr
       have h1:=he x _ hx
       have h2:=he y _ hy
       unfold V.den at h1 h2
       refine⟨_,?_,by unfold V.den; rfl⟩
       simp [resolve,invoke,builtin,Builtin.max_,Builtin.max2,h1,h2]
     · cases hr
   · cases hr
 · rename_i args tys
   have hX:=PN (a:=a) hop
   unfold execOp at hX
   rw [hop] at hX
   rw [hX]
   split at hr
   · rename_i x y ha
     have ha:=G5 ha
     subst ha
     split at hr
     · rename_i k m k' n hx hy
       cases hr
       have h1:=he x _ hx
       have h2:=he y _ hy
       unfold V.den at h1 h2
       refine⟨_,?_,by unfold V.den; rfl⟩
       simp [resolve,invoke,builtin,Builtin.min_,Builtin.min2,h1,h2]
     · cases hr
   · cases hr
 · cases hr
end
section
variable {Ty:Nat→Type} [rT:∀ k,Rep (Ty k)] {P:Program} {M:Mo Ty} {p:Nat→Bool}
theorem V.oksB_iff:∀ {xs:List (V Ty)},V.oksB p xs=true↔∀ x∈xs,x.okB p=true
 | []=>by simp [V.oksB]
 | x::xs=>by simp [V.oksB,V.oksB_iff (xs:=xs)]
theorem V.oksB_get {xs:List (V Ty)} {j:Nat} {x:V Ty} (hh:V.oksB p xs=true) (hx:xs[j]? = some x):x.okB p=true:=V.oksB_iff.1 hh x (Za4 hx)
theorem V.oksB_take {xs:List (V Ty)} (n:Nat) (hh:V.oksB p xs=true):V.oksB p (xs.take n)=true:=V.oksB_iff.2 fun x hx=>V.oksB_iff.1 hh x (List.mem_of_mem_take hx)
theorem V.oksB_drop {xs:List (V Ty)} (n:Nat) (hh:V.oksB p xs=true):V.oksB p (xs.drop n)=true:=V.oksB_iff.2 fun x hx=>V.oksB_iff.1 hh x (List.mem_of_mem_drop hx)
theorem V.oksB_append {xs ys:List (V Ty)} (hx:V.oksB p xs=true) (hy:V.oksB p ys=true):V.oksB p (xs++ys)=true:=V.oksB_iff.2 fun x h=>(Zap.1 h).elim (V.oksB_iff.1 hx x) (V.oksB_iff.1 hy x)
theorem Sl {v:Value} {x:V Ty} (hh:Nl v=some x):x.okB p=true:=by
 unfold Nl at hh
 split at hh <;> first | (cases hh; rfl) | cases hh
theorem Lk:∀ {vs:List Value} {xs:List (V Ty)},Ix vs=some xs→V.oksB p xs=true
 | [],xs,hh=>by cases hh; rfl
 | v::r,xs,hh=>by
  unfold Ix at hh
  split at hh
  · rename_i x hx
    split at hh
    · rename_i ys hys
      cases hh
      simp [V.oksB,Sl (p:=p) hx,Lk hys]
    · cases hh
  · cases hh
theorem Zn {v:Value} {x:V Ty} (hh:PB v=some x):x.okB p=true:=by
 unfold PB at hh
 split at hh
 · split at hh
   · rename_i xs hxs
     cases hh
     unfold V.okB
     exact Lk hxs
   · cases hh
 · exact Sl hh
theorem Mn {T:TypeId} {cs:List (V Ty)} (hh:KB P T=some cs):V.oksB p cs=true:=by
 unfold KB at hh
 split at hh
 · split at hh
   · exact Lk hh
   · cases hh
 · cases hh
theorem V.cells_ok {x:V Ty} {cs:List (V Ty)} (hx:x.okB p=true) (hc:x.cells=some cs):V.oksB p cs=true:=by
 cases x <;> simp only [V.cells,Option.some.injEq,reduceCtorEq] at hc
 case agg cs'=>subst hc; unfold V.okB at hx; exact hx
 all_goals (subst hc; simp [V.oksB,hx])
theorem J8 {T:TypeId} {cs:List (V Ty)} {off:Nat} {v:V Ty} (hp:IZ P T cs off=some v) (hc:V.oksB p cs=true):v.okB p=true:=by
 unfold IZ at hp
 split at hp
 · split at hp
   · rename_i n hn
     cases hb:Nat.ble (off+n) cs.length with
     | false=>rw [hb] at hp; cases hp
     | true=>rw [hb] at hp; cases hp; unfold V.okB; exact V.oksB_take _ (V.oksB_drop _ hc)
   · cases hp
 · exact V.oksB_get hc hp
 · cases hp
theorem Mp (place:Nat→Option (Nat×Nat)):∀ {ps:List (Nat×List (V Ty))} {cells out:List (V Ty)},J1 place cells ps=some out→V.oksB p cells=true→(∀ q∈ps,V.oksB p q.2=true)→V.oksB p out=true
 | [],cells,out,hf,hc,_=>by cases hf; exact hc
 | (i,c)::ps,cells,out,hf,hc,H=>by
  unfold J1 at hf
  split at hf
  · cases hf
  · rename_i off size hp
    cases hb:(Nat.beq c.length size && Nat.ble (off+size) cells.length) with
    | false=>rw [hb] at hf; cases hf
    | true =>
     rw [hb] at hf
     exact Mp place hf (V.oksB_append (V.oksB_append (V.oksB_take _ hc) (H (i,c) (by simp))) (V.oksB_drop _ hc)) fun q hq=>H q (by simp [hq])
def O5 (p:Nat→Bool) (ev:Operand→Option (V Ty)):Prop:=∀ x v,ev x=some v→v.okB p=true
theorem Tm {ev:Operand→Option (V Ty)} (he:O5 p ev):∀ {l:List (Nat×Operand)} {ps:List (Nat×List (V Ty))},BQ.psV ev l=some ps→∀ q∈ps,V.oksB p q.2=true
 | [],ps,hh=>by unfold BQ.psV at hh; cases hh; simp
 | (i,x)::r,ps,hh=>by
  unfold BQ.psV at hh
  split at hh
  · rename_i v hv
    split at hh
    · rename_i cs hcs
      split at hh
      · rename_i vs hvs
        cases hh
        intro q hq
        rcases Zam.1 hq with rfl | hq
        · exact V.cells_ok (he x v hv) hcs
        · exact Tm he hvs q hq
      · cases hh
    · cases hh
  · cases hh
theorem Tn {ev:Operand→Option (V Ty)} (he:O5 p ev):∀ {l:List Operand} {vs:List (V Ty)},BQ.lsV ev l=some vs→V.oksB p vs=true
 | [],vs,hh=>by unfold BQ.lsV at hh; cases hh; rfl
 | x::r,vs,hh=>by
  unfold BQ.lsV at hh
  split at hh
  · rename_i v hv
    split at hh
    · rename_i ws hws
      cases hh
      simp [V.oksB,he x v hv,Tn he hws]
    · cases hh
  · cases hh
theorem To {op:BinOp} {T:TypeId} {x y v:V Ty} (hr:Rv P op T x y=some v):v.okB p=true:=by
 unfold Rv at hr
 repeat' split at hr
 all_goals first | (cases hr; rfl) | cases hr
theorem Aeb {op:BinOp} {T:TypeId} {xs ys:List (V Ty)} {v:V Ty} (hr:AeJ P op T xs ys=some v):v.okB p=true:=by
 unfold AeJ at hr
 repeat' split at hr
 all_goals first | (cases hr; rfl) | cases hr
variable [UV Ty] [UL Ty]
theorem PO {k:Nat} {x:Ty k}:V.oksB p (UV.view k x)=true:=UL.view_ok p k x
theorem Vl {T:TypeId} {x v:V Ty} (hx:x.okB p=true) (hM:∀ i c,M i=some c→c.okB p=true) (hr:(Sf P T M x 0).runK some=some v):v.okB p=true:=by
 unfold Sf at hr
 split at hr
 · split at hr
   · rename_i cs hi
     rw [Tr.run_of] at hr
     exact J8 hr (hM _ _ hi)
   · rename_i k l hi
     split at hr
     · rename_i n E hT
       cases hc:(Nat.beq E k && Nat.beq (_+0) 0 && PC (Ty:=Ty) P T E n) with
       | false=>rw [hc] at hr; cases hr
       | true =>
        rw [hc,Zac,Tr.runK_need] at hr
        cases hl:Nat.beq l.length n with
        | false=>rw [hl] at hr; cases hr
        | true=>rw [hl] at hr; cases hr; rfl
     · cases hr
   · cases hr
 · rw [Tr.run_of] at hr
   unfold V.okB at hx
   exact J8 hr hx
 · split at hr
   · split at hr
     · rename_i hk
       subst hk
       rw [Tr.runK_ask] at hr
       obtain⟨x,hx,hr⟩:=Zae.1 hr
       rw [Tr.run_of] at hr
       exact J8 hr PO
     · cases hr
   · split at hr
     · rename_i hk
       subst hk
       rw [Tr.runK_ask] at hr
       obtain⟨x,hx,hr⟩:=Zae.1 hr
       rw [Tr.run_of] at hr
       exact J8 hr PO
     · cases hr
   · cases hr
 · cases hr
theorem Vm {T:TypeId} {x v:V Ty} {n:Int} (hx:x.okB p=true) (hr:(GM P T M x n).runK some=some v):v.okB p=true:=by
 unfold GM at hr
 split at hr
 · split at hr
   · rename_i E hT
     cases hb:(Nat.beq E _ && J2 (Ty:=Ty) P E) with
     | false=>rw [hb] at hr; cases hr
     | true =>
      rw [hb,Zac,Tr.runK_ask] at hr
      obtain⟨y,hy,hr⟩:=Zae.1 hr
      cases hr
      unfold V.okB
      exact PO
   · cases hr
 · split at hr
   · rename_i E k2 l hT hi
     cases hb:(Nat.beq E _ && Nat.beq k2 _ && J2 (Ty:=Ty) P E) with
     | false=>rw [hb] at hr; cases hr
     | true =>
      rw [hb,Zac,Tr.runK_ask] at hr
      obtain⟨y,hy,hr⟩:=Zae.1 hr
      cases hr
      unfold V.okB at hx ⊢
      exact hx
   · cases hr
 · split at hr
   · rename_i m E k2 l hT hi
     cases hb:(Nat.beq E k2 && Nat.beq _ 0 && J2 (Ty:=Ty) P E) with
     | false=>rw [hb] at hr; cases hr
     | true =>
      rw [hb,Zac,Tr.runK_need] at hr
      cases hl:Nat.beq l.length m with
      | false=>rw [hl] at hr; cases hr
      | true =>
       rw [hl,Zac,Tr.runK_ask] at hr
       obtain⟨y,hy,hr⟩:=Zae.1 hr
       cases hr
       unfold V.okB at hx ⊢
       exact hx
   · cases hr
 · split at hr
   · split at hr
     · obtain⟨q,_,_,_,rfl⟩:=Nq hr
       unfold V.okB at hx ⊢
       exact hx
     · cases hr
   · cases hr
 · cases hr
theorem AcQ {T:TypeId} {x v:V Ty} {lo hi:Option (V Ty)} (hr:(AaR P T x lo hi).runK some=some v):v.okB p=true:=by
 unfold AaR at hr
 split at hr
 · split at hr
   · split at hr
     · cases hr; rfl
     · rw [Tr.runK_ask] at hr; obtain⟨y,hy,hr⟩:=Zae.1 hr; cases hr; rfl
     · rw [Tr.runK_ask] at hr; obtain⟨y,hy,hr⟩:=Zae.1 hr; cases hr; rfl
     · rw [Tr.runK_ask] at hr; obtain⟨y,hy,hr⟩:=Zae.1 hr; cases hr; rfl
     · cases hr
   · cases hr
 · split at hr
   · rename_i E hT
     cases hb:(Nat.beq E _ && J2 (Ty:=Ty) P E) with
     | false=>rw [hb] at hr; cases hr
     | true =>
      rw [hb,Zac] at hr
      split at hr
      · cases hr; rfl
      · rw [Tr.runK_ask] at hr; obtain⟨y,hy,hr⟩:=Zae.1 hr; cases hr; rfl
      · rw [Tr.runK_ask] at hr; obtain⟨y,hy,hr⟩:=Zae.1 hr; cases hr; rfl
      · rw [Tr.runK_ask] at hr; obtain⟨y,hy,hr⟩:=Zae.1 hr; cases hr; rfl
      · cases hr
   · cases hr
 · cases hr
theorem Zo {ev:Operand→Option (V Ty)} {op:Op} {v:V Ty} (he:O5 p ev) (hM:∀ i c,M i=some c→c.okB p=true) (hr:(BQ P ev M op).runK some=some v):v.okB p=true:=by
 unfold BQ at hr
 split at hr
 · rw [Tr.run_of] at hr; exact he _ _ hr
 · rw [Tr.run_of] at hr; exact he _ _ hr
 · split at hr
   · split at hr
     · rw [Tr.run_of] at hr; exact he _ _ hr
     · rw [Tr.run_of] at hr; exact he _ _ hr
   · cases hr
 · split at hr
   · rename_i q hq
     exact Vl (he _ _ hq) hM hr
   · cases hr
 · split at hr
   · rw [Tr.run_of] at hr; exact Aeb hr
   · split at hr
     · rw [Tr.runK_ask] at hr; obtain⟨y,hy,hr⟩:=Zae.1 hr; cases hr; rfl
     · rw [Tr.run_of] at hr; exact To hr
   · split at hr
     · rw [Tr.run_of] at hr; exact To hr
     · cases hr
   · exact To (Vj hr)
   · cases hr
 · split at hr
   · cases hr; rfl
   · cases hr; rfl
   · cases hr
 · split at hr
   · cases hr; rfl
   · cases hr
 · split at hr
   · split at hr
     · split at hr
       · split at hr
         · rename_i hx
           cases hr
           have:=he _ _ hx
           unfold V.okB at this ⊢
           exact this
         · rename_i hx
           cases hr
           have:=he _ _ hx
           unfold V.okB at this ⊢
           exact this
         · rename_i hx
           cases hr
           have:=he _ _ hx
           unfold V.okB at this ⊢
           exact this
         · cases hr
       · cases hr
     · cases hr
   · cases hr
 · split at hr
   · rename_i hx
     split at hr
     · rw [Tr.run_of] at hr
       have:=he _ _ hx
       unfold V.okB at this
       exact J8 hr this
     · cases hr
   · cases hr
 · split at hr
   · rename_i z hz
     split at hr
     · split at hr
       · rename_i pc vs hpc hvs
         split at hr
         · rename_i cs hcs
           cases hr
           unfold V.okB
           exact Mp _ hcs (Mn hz) (Tm he hvs)
         · cases hr
       · cases hr
     · split at hr
       · rename_i sz vs hsz hvs
         split at hr
         · rename_i cs hcs
           cases hr
           unfold V.okB
           exact Mp _ hcs (Mn hz) (Tm he hvs)
         · cases hr
       · cases hr
     · cases hr
   · cases hr
 · split at hr
   · rename_i hx
     rw [Tr.run_of] at hr
     have:=he _ _ hx
     unfold V.okB at this
     exact V.oksB_get this hr
   · cases hr
 · split at hr
   · rename_i hx; cases hr; exact he _ _ hx
   · rename_i hx; cases hr; exact he _ _ hx
   · rename_i hx; cases hr; exact he _ _ hx
   · cases hr
 · split at hr
   · rename_i hx _
     exact Vm (he _ _ hx) hr
   · cases hr
 · split at hr
   · rw [Tr.runK_ask] at hr; obtain⟨y,hy,hr⟩:=Zae.1 hr; cases hr; rfl
   · cases hr
 · split at hr
   · exact AcQ hr
   · cases hr
 · split at hr
   · cases hr
   · split at hr
     · rename_i v' hv
       cases hr
       unfold V.okB
       exact he _ _ hv
     · cases hr
   · cases hr
 · split at hr
   · rename_i h1 h2
     generalize Nat.blt _ An=bb at hr
     cases bb with
     | false=>cases hr
     | true =>
     rw [Zac] at hr
     cases hr
     unfold V.okB
     simp [Tn he h1,Tn he h2]
   · cases hr
 · split at hr
   · split at hr
     · cases hr; rfl
     · cases hr; rfl
     · split at hr
       · rename_i k' l hi
         cases hb:Nat.beq k' _ with
         | false=>rw [hb] at hr; cases hr
         | true=>rw [hb] at hr; cases hr; rfl
       · cases hr
     · cases hr; rfl
     · cases hr; rfl
     · cases hr
   · cases hr
 · split at hr
   · split at hr
     · cases hr; rfl
     · cases hr
   · cases hr
 · split at hr
   · split at hr
     · cases hr; rfl
     · cases hr
   · cases hr
 · cases hr
end
theorem Be:∀ {l:List Nat} {k:Nat},A8 l k=true↔k∈l
 | [],k=>by simp [A8]
 | j::r,k=>by
  unfold A8
  cases hb:Nat.beq j k with
  | true =>
   have:=Zab hb
   subst this
   simp
  | false =>
   have hne : ¬ j=k:=fun hh=>by subst hh; simp at hb
   rw [Zad,Be (l:=r),Zam]
   constructor
   · exact .inr
   · rintro(hh | hh)
     · exact absurd hh.symm hne
     · exact hh
theorem Fh:∀ {l:List Nat},Gh l=true→l.Nodup
 | [],_=>Zbt
 | j::r,hh=>by
  unfold Gh at hh
  obtain⟨h1,h2⟩:=Ao hh
  refine Zbi.2 ⟨fun hm=>?_,Fh h2⟩
  rw [Be.2 hm] at h1
  cases h1
theorem A5 {α:Type}:∀ (l:List α),AZ l=l.length
 | []=>rfl
 | _::r=>by rw [AZ,A5 r,Zas]
theorem GQ:∀ {l:List Nat} {j:Nat},j<l.length→l[j]? = some (AR l j)
 | [],j,hh=>by simp at hh
 | x::r,0,_=>rfl
 | x::r,j+1,hh=>by
  rw [List.getElem?_cons_succ,GQ (l:=r) (by simpa using hh)]
  rfl
theorem Mq:∀ {l:List Nat} {k:Nat},k∈l→l[CQ l k]? = some k
 | [],k,hh=>by simp at hh
 | j::r,k,hh=>by
  unfold CQ
  cases hb:Nat.beq j k with
  | true =>
   have:=Zab hb
   subst this
   rfl
  | false =>
   have hne : ¬ j=k:=fun hh=>by subst hh; simp at hb
   rw [Zad,List.getElem?_cons_succ]
   rcases Zam.1 hh with hh | hh
   · exact absurd hh.symm hne
   · exact Mq hh
theorem Kq {l:List Nat} {k:Nat} (hk:k∈l):CQ l k<l.length:=by
 rcases Za2 (CQ l k) l.length with h | h
 · exact h
 · have:=Mq hk; rw [Za0 h] at this; cases this
theorem J9 {l:List Nat} {k:Nat} (hk:k∈l):AR l (CQ l k)=k:=by
 have h1:=GQ (Kq hk)
 rw [Mq hk] at h1
 exact(Option.some.inj h1).symm
theorem C2 {l:List Nat} {j:Nat} (hj:j<l.length):AR l j∈l:=Za4 (GQ hj)
theorem E4 {l:List Nat} (hn:l.Nodup) {j:Nat} (hj:j<l.length):CQ l (AR l j)=j:=by
 have hm:=C2 hj
 have h1:=Mq hm
 have h2:=GQ hj
 exact(List.getElem?_inj (Kq hm) hn).1 (by rw [h1,h2])
theorem KE:∀ {l m:List Nat} {k:Nat},k∈l→CQ (l++m) k=CQ l k
 | [],m,k,hh=>by simp at hh
 | j::r,m,k,hh=>by
  rw [ZaP]
  unfold CQ
  cases hb:Nat.beq j k with
  | true=>rfl
  | false =>
   have hne : ¬ j=k:=fun hh=>by subst hh; simp at hb
   rw [Zad,Zad]
   rcases Zam.1 hh with hh | hh
   · exact absurd hh.symm hne
   · rw [KE hh]
theorem JA:∀ {l m:List Nat} {k:Nat},k ∉ l→CQ (l++m) k=l.length+CQ m k
 | [],m,k,hh=>by simp
 | j::r,m,k,hh=>by
  simp only [Zam,not_or] at hh
  rw [ZaP,CQ]
  have:Nat.beq j k=false:=by
   cases hb:Nat.beq j k with
   | false=>rfl
   | true=>exact absurd (Zab hb).symm hh.1
  rw [this,Zad,JA hh.2,Zas]
  omega
theorem Kr:∀ {n b k:Nat},k∈GN b n↔b≤k∧k<b+n
 | 0,b,k=>by simp [GN]
 | n+1,b,k=>by
  simp only [GN,Zam,Kr (n:=n)]
  omega
theorem Sm:∀ {n b k:Nat},b≤k→k<b+n→CQ (GN b n) k=k-b
 | 0,b,k,h1,h2=>by omega
 | n+1,b,k,h1,h2=>by
  unfold GN CQ
  cases hb:Nat.beq b k with
  | true =>
   have:=Zab hb
   show 0=k-b
   omega
  | false =>
   have hne : ¬ b=k:=fun hh=>by subst hh; simp at hb
   rw [Zad,Sm (by omega) (by omega)]
   omega
theorem AL.get_put {α:Type}:∀ (l:List (Nat×α))(k j:Nat)(x:α),AL.get (AL.put l k x) j=if k=j then some x else AL.get l j
 | [],k,j,x=>by
  unfold AL.put AL.get
  cases hb:Nat.beq k j with
  | true=>have:=Zab hb; rw [if_pos this]; rfl
  | false=>rw [if_neg (fun hh=>by subst hh; simp at hb)]; rfl
 | (i,v)::r,k,j,x=>by
  unfold AL.put
  cases hb:Nat.beq i k with
  | true =>
   have:=Zab hb
   subst this
   rw [Zac]
   show AL.get ((i,x)::r) j=_
   unfold AL.get
   cases hc:Nat.beq i j with
   | true=>have:=Zab hc; rw [if_pos this]; rfl
   | false=>rw [if_neg (fun hh=>by subst hh; simp at hc)]; rfl
  | false =>
   rw [Zad]
   show AL.get ((i,v)::AL.put r k x) j=_
   unfold AL.get
   cases hc:Nat.beq i j with
   | true =>
    have:=Zab hc
    subst this
    rw [if_neg (fun hh=>by subst hh; simp at hb)]
    rfl
   | false=>rw [Zad,Zad]; exact AL.get_put r k j x
theorem AL.get_del {α:Type}:∀ (l:List (Nat×α))(k j:Nat),AL.get (AL.del l k) j=if k=j then none else AL.get l j
 | [],k,j=>by unfold AL.del AL.get; split <;> rfl
 | (i,v)::r,k,j=>by
  unfold AL.del
  cases hb:Nat.beq i k with
  | true =>
   have:=Zab hb
   subst this
   rw [Zac,AL.get_del r i j]
   show _=if i=j then none else AL.get ((i,v)::r) j
   unfold AL.get
   cases hc:Nat.beq i j with
   | true=>have:=Zab hc; rw [if_pos this,if_pos this]
   | false=>rw [Zad]; cases r <;> rfl
  | false =>
   rw [Zad]
   show AL.get ((i,v)::AL.del r k) j=if k=j then none else AL.get ((i,v)::r) j
   unfold AL.get
   cases hc:Nat.beq i j with
   | true =>
    have:=Zab hc
    subst this
    rw [if_neg (fun hh=>by subst hh; simp at hb)]
    rfl
   | false=>rw [Zad,Zad]; exact AL.get_del r k j
section
variable {Ty:Nat→Type}
def Mo.app (M:Mo Ty):List (Nat×Option (A7 Ty))→Mo Ty
 | []=>M
 | (i,c)::r=>Mo.app (M.put i c) r
theorem Az.get_app:∀ (ws:List (Nat×Option (A7 Ty)))(s:Az Ty),AL.get (s.app ws)=Mo.app (AL.get s) ws
 | [],s=>rfl
 | (i,some c)::r,s=>by
  unfold Az.app Mo.app
  rw [Az.get_app r]
  congr 1
  funext j
  rw [AL.get_put]
  unfold Mo.put
  by_cases hij:i=j
  · rw [if_pos hij,if_pos hij.symm]
  · rw [if_neg hij,if_neg (fun hh=>hij hh.symm)]
 | (i,none)::r,s=>by
  unfold Az.app Mo.app
  rw [Az.get_app r]
  congr 1
  funext j
  rw [AL.get_del]
  unfold Mo.put
  by_cases hij:i=j
  · rw [if_pos hij,if_pos hij.symm]
  · rw [if_neg hij,if_neg (fun hh=>hij hh.symm)]
theorem Mo.app_not:∀ {ws:List (Nat×Option (A7 Ty))} {M:Mo Ty} {j:Nat},(∀ x∈ws,x.1≠j)→Mo.app M ws j=M j
 | [],M,j,_=>rfl
 | (i,c)::r,M,j,hh=>by
  unfold Mo.app
  rw [Mo.app_not fun x hx=>hh x (by simp [hx])]
  unfold Mo.put
  rw [if_neg (fun he=>hh (i,c) (by simp) he.symm)]
theorem Mo.app_back (r:Az Ty) (f:Nat→Nat):∀ {ids:List Nat} {M:Mo Ty} {j0 i:Nat},ids.Nodup→i∈ids→Mo.app M (HR r f j0 ids) i=(AL.get r (j0+CQ ids i)).map (A7.ren f)
 | [],M,j0,i,_,hi=>by simp at hi
 | a::ids,M,j0,i,hn,hi=>by
  obtain⟨h1,h2⟩:=Zbi.1 hn
  unfold HR Mo.app
  by_cases hai:a=i
  · subst hai
    rw [Mo.app_not]
    · unfold Mo.put CQ
      simp
    · intro x hx
      have:∀ {ids:List Nat} {j0:Nat} {x:Nat×Option (A7 Ty)},x∈HR r f j0 ids→x.1∈ids:=by
       intro ids
       induction ids with
       | nil=>intro j0 x hx; simp [HR] at hx
       | cons b ids ih =>
        intro j0 x hx
        unfold HR at hx
        rcases Zam.1 hx with rfl | hx
        · simp
        · exact Zbe _ (ih hx)
      exact fun he=>h1 (he▸this hx)
  · rcases Zam.1 hi with rfl | hi
    · exact absurd rfl hai
    · rw [Mo.app_back r f h2 hi]
      have hb:Nat.beq a i=false:=by
       cases hb:Nat.beq a i with
       | false=>rfl
       | true=>exact absurd (Zab hb) hai
      have hp:CQ (a::ids) i=CQ ids i+1:=by rw [CQ,hb,Zad]
      rw [hp,show j0+1+CQ ids i=j0+(CQ ids i+1) by omega]
theorem Sn (r:Az Ty) (f:Nat→Nat):∀ {ids:List Nat} {j0:Nat} {x:Nat×Option (A7 Ty)},x∈HR r f j0 ids→x.1∈ids
 | [],j0,x,hx=>by simp [HR] at hx
 | b::ids,j0,x,hx=>by
  unfold HR at hx
  rcases Zam.1 hx with rfl | hx
  · simp
  · exact Zbe _ (Sn r f hx)
theorem JB (s:Az Ty) (f:Nat→Nat):∀ (ids:List Nat)(j0 j:Nat),AL.get (Le s f j0 ids) j=if j0≤j∧j<j0+ids.length then(AL.get s (AR ids (j-j0))).map (A7.ren f) else none
 | [],j0,j=>by
  rw [if_neg (by simp; try omega)]
  rfl
 | i::r,j0,j=>by
  have key:AL.get (Le s f j0 (i::r)) j=if j0=j then(AL.get s i).map (A7.ren f) else AL.get (Le s f (j0+1) r) j:=by
   show AL.get (match AL.get s i with | some c=>(j0,c.ren f)::Le s f (j0+1) r | none=>Le s f (j0+1) r) j=_
   split
   · rename_i c hc
     show(bif Nat.beq j0 j then some (A7.ren f c) else AL.get (Le s f (j0+1) r) j)=_
     cases hb:Nat.beq j0 j with
     | true=>rw [if_pos (Zab hb),hc]; rfl
     | false=>rw [if_neg (fun hh=>by subst hh; simp at hb)]; rfl
   · rename_i hc
     by_cases hj:j0=j
     · subst hj
       rw [if_pos rfl,hc,JB s f r (j0+1) j0,if_neg (by omega)]
       rfl
     · rw [if_neg hj]
  rw [key]
  by_cases hj:j0=j
  · subst hj
    rw [if_pos rfl,if_pos ⟨Zal _,by simp⟩]
    simp [AR]
  · rw [if_neg hj,JB s f r (j0+1) j]
    by_cases hc:j0+1≤j∧j<j0+1+r.length
    · rw [if_pos hc,if_pos ⟨by omega,by simp; omega⟩]
      rw [show j-j0=(j-(j0+1))+1 by omega]
      rfl
    · rw [if_neg hc,if_neg (by simp; omega)]
theorem Hq {s:Az Ty} {ρ:List Nat}:∀ {l:List Nat},KC s ρ l=true→∀ i∈l,∀ c,AL.get s i=some c→c.okB (A8 ρ)=true
 | [],_,i,hi,_,_=>by simp at hi
 | a::l,hh,i,hi,c,hc=>by
  unfold KC at hh
  obtain⟨h1,h2⟩:=Ao hh
  rcases Zam.1 hi with rfl | hi
  · rw [hc] at h1; exact h1
  · exact Hq h2 i hi c hc
theorem I1 {k:Nat} {ρ:List Nat} (h:PI k ρ=true):k≤ρ.length∧∀ i,i<k→AR ρ i=i:=by
 have key:∀ (n i:Nat)(ρ:List Nat),PI.go i n ρ=true→n≤ρ.length∧∀ j,j<n→AR ρ j=i+j:=by
  intro n
  induction n with
  | zero=>intro i ρ _; exact⟨by omega,fun j hj=>by omega⟩
  | succ n ih =>
   intro i ρ hh
   cases ρ with
   | nil=>cases hh
   | cons a r =>
    obtain⟨h1,h2⟩:=Ao hh
    obtain⟨q1,q2⟩:=ih (i+1) r h2
    have h1:=Zab h1
    refine⟨by simp; omega,fun j hj=>?_⟩
    cases j with
    | zero=>exact h1
    | succ j =>
     show AR r j=_
     rw [q2 j (by omega)]; omega
 obtain⟨h1,h2⟩:=key k 0 ρ h
 exact⟨h1,fun i hi=>by rw [h2 i hi]; omega⟩
end
section
variable {Ty:Nat→Type} [rT:∀ k,Rep (Ty k)] [RFs] [UM Ty] [UML Ty] {F:Fr} {h:Ad} {g:GE} {w:World}
def Cl (n:Nat):Nat→Bool:=fun i=>Nat.blt i n
theorem Am {n i:Nat}:Cl n i=true↔i<n:=⟨fun h=>Zaf h,fun h=>Za1 h⟩
def EV (p:Nat→Bool) (M:Mo Ty):Prop:=∀ i c,M i=some c→p i=true∧c.okB p=true
abbrev HG (n:Nat) (M:Mo Ty):Prop:=EV (Cl n) M
def KF (base i:Nat):Bool:=Nat.ble base i && Nat.blt i (base+64)
theorem Df {base i:Nat}:KF base i=true↔base≤i∧i<base+64:=by
 unfold KF
 constructor
 · intro hh; obtain⟨h1,h2⟩:=Ao hh; exact⟨Zaf h1,Zaf h2⟩
 · rintro⟨h1,h2⟩; rw [Za1 h1,show Nat.blt i (base+64)=true from Za1 h2]; rfl
def Rj (p:Nat→Bool) (base:Nat):Nat→Bool:=fun i=>p i || KF base i
theorem Gi {p:Nat→Bool} {base i:Nat} (h:p i=true):Rj p base i=true:=by unfold Rj; rw [h]; rfl
theorem Yg {p:Nat→Bool} {base i:Nat} (h1:base≤i) (h2:i<base+64):Rj p base i=true:=by unfold Rj; rw [Df.2 ⟨h1,h2⟩]; simp
def Dg (p:Nat→Bool) (base:Nat):Prop:=∀ i,KF base i=true→p i=false
theorem FW (n:Nat):Dg (Cl n) n:=fun i hi=>by
 have:=Df.1 hi
 cases hb:Cl n i with
 | false=>rfl
 | true=>have:=Am.1 hb; omega
open Classical in
noncomputable def ZbJ (F:Fr) (g:GE) (M:Mo Ty) (ρ:List Nat) (w:World):Nat→Option Obj:=fun b=>match F.X b with
 | some x=>some x
 | none=>if ∃ i c,M i=some c∧i ∉ ρ∧(g i).nl=false∧(g i).b=b then w.heap[b]? else none
theorem Ll {ρ:List Nat} {k base j:Nat} (h:j<k):Uf ρ k base j=AR ρ j:=by
 unfold Uf; rw [show Nat.blt j k=true from Za1 h]; rfl
theorem Lm {ρ:List Nat} {k base j:Nat} (h:k≤j):Uf ρ k base j=base+(j-k):=by
 unfold Uf
 cases hb:Nat.blt j k with
 | true=>have:=Zaf hb; omega
 | false=>rfl
def Mr (g g2:GE) (k base:Nat):GE:=fun i=>if KF base i=true then g2 (i-base+k) else g i
theorem Ag.lend {ρ:List Nat} {s:Az Ty} {base:Nat} (hm:Ag F h g (AL.get s) w) (hn:ρ.Nodup) (hs:KC s ρ ρ=true) {p:Nat→Bool} (hf:Dg p base) (hlt:∀ i∈ρ,p i=true) (hin:EV p (AL.get s)) :
  ∃ X,Ag ⟨F.w,F.h,X⟩ h (fun j=>g (AR ρ j)) (AL.get (Le s (CQ ρ) 0 ρ)) w ∧
   ∀ {h2:Ad} {g2:GE} {r:Az Ty} {n:Nat} {w2:World},Ag ⟨F.w,F.h,X⟩ h2 g2 (AL.get r) w2→Ad.le h h2→(∀ j,j<ρ.length→g2 j=g (AR ρ j))→HG n (AL.get r)→ρ.length≤n→n≤ρ.length+64 →
    Ag F h2 (Mr g g2 ρ.length base) (AL.get (s.app (HR r (Uf ρ ρ.length base) 0 (ρ++GN base (n-ρ.length))))) w2 ∧
    EV (Rj p base) (AL.get (s.app (HR r (Uf ρ ρ.length base) 0 (ρ++GN base (n-ρ.length))))) ∧
    (∀ (v:V Ty)(u:Value),v.okB (Cl n)=true→v.den g2 h2 u→(v.ren (Uf ρ ρ.length base)).den (Mr g g2 ρ.length base) h2 u) ∧
    (∀ (v:V Ty),v.okB (Cl n)=true→(v.ren (Uf ρ ρ.length base)).okB (Rj p base)=true):=by
 refine⟨ZbJ F g (AL.get s) ρ w,?_,?_⟩
 · have hg:∀ i,A8 ρ i=true→(fun j=>g (AR ρ j)) (CQ ρ i)=g i:=fun i hi=>by
    simp only
    rw [J9 (Be.1 hi)]
   have get:∀ {j c},AL.get (Le s (CQ ρ) 0 ρ) j=some c→j<ρ.length∧∃ c0,AL.get s (AR ρ j)=some c0∧c=c0.ren (CQ ρ)∧c0.okB (A8 ρ)=true:=fun {j c} hj=>by
    rw [JB] at hj
    split at hj
    · rename_i hc
      obtain⟨c0,h1,rfl⟩:=Zat.1 hj
      rw [Nat.sub_zero] at h1
      exact⟨by omega,c0,h1,rfl,Hq hs _ (C2 (by omega)) _ h1⟩
    · cases hj
   have notX:∀ {j c},j<ρ.length→AL.get s (AR ρ j)=some c→(g (AR ρ j)).nl=false→ZbJ F g (AL.get s) ρ w (g (AR ρ j)).b=none:=fun {j c} hj hc hnl=>by
    unfold ZbJ
    rw [(hm.own _ _ hc hnl).2.2.1]
    simp only
    rw [if_neg]
    rintro⟨i,c',h1,h2,h3,h4⟩
    exact h2 (by rw [hm.inj _ _ _ _ h1 hc h3 hnl h4]; exact C2 hj)
   refine⟨hm.below,hm.le,hm.old,hm.has,?_,?_,?_,?_,hm.glo⟩
   · intro j c hj
     obtain⟨hlt,c0,h1,rfl,hok⟩:=get hj
     have:=hm.cell _ _ h1
     exact this.renC (g':=fun j=>g (AR ρ j)) (f:=CQ ρ) hg hok
   · intro j c hj hnl
     obtain⟨hlt,c0,h1,rfl,hok⟩:=get hj
     obtain⟨q1,q2,q3,q4⟩:=hm.own _ _ h1 hnl
     exact⟨q1,q2,notX hlt h1 hnl,q4⟩
   · intro i j c d hi hj hni hnj hb
     obtain⟨hlt,c0,h1,_,_⟩:=get hi
     obtain⟨hlt2,c1,h2,_,_⟩:=get hj
     have:=hm.inj _ _ _ _ h1 h2 hni hnj hb
     have e1:=E4 hn hlt
     rw [this,E4 hn hlt2] at e1
     exact e1.symm
   · intro b x hx
     replace hx:ZbJ F g (AL.get s) ρ w b=some x:=hx
     unfold ZbJ at hx
     split at hx
     · rename_i y hy
       cases hx
       exact hm.ext b _ hy
     · rename_i hy
       split at hx
       · rename_i hex
         obtain⟨i,c,h1,h2,h3,rfl⟩:=hex
         obtain⟨q1,q2,q3,q4⟩:=hm.own _ _ h1 h3
         exact⟨q1,hx,q4⟩
       · cases hx
 · intro h2 g2 r n w2 hm2 hle hg2 hin2 hkn hkm
   have pnew:∀ {i},p i=true→KF base i=false:=fun {i} hi=>by
    cases hb:KF base i with
    | false=>rfl
    | true=>rw [hf i hb] at hi; cases hi
   have hgb:∀ i,p i=true→Mr g g2 ρ.length base i=g i:=fun i hi=>by
    unfold Mr; rw [pnew hi]; rfl
   have hgf:∀ j,Cl n j=true→Mr g g2 ρ.length base (Uf ρ ρ.length base j)=g2 j:=fun j hjn=>by
    have hjn:=Am.1 hjn
    unfold Mr
    rcases Za2 j ρ.length with hj | hj
    · rw [Ll hj,pnew (hlt _ (C2 hj)),hg2 j hj]; rfl
    · rw [Lm hj,Df.2 ⟨by omega,by omega⟩,if_pos rfl]
      congr 1
      omega
   have hden:∀ (v:V Ty)(u:Value),v.okB (Cl n)=true→v.den g2 h2 u→(v.ren (Uf ρ ρ.length base)).den (Mr g g2 ρ.length base) h2 u:=fun v u ho hv=>V.den_ren hgf v u ho hv
   have frok:∀ i,Cl n i=true→Rj p base (Uf ρ ρ.length base i)=true:=fun i hi=>by
    have hi:=Am.1 hi
    rcases Za2 i ρ.length with hj | hj
    · rw [Ll hj]; exact Gi (hlt _ (C2 hj))
    · rw [Lm hj]; exact Yg (by omega) (by omega)
   have hren:∀ (v:V Ty),v.okB (Cl n)=true→(v.ren (Uf ρ ρ.length base)).okB (Rj p base)=true:=fun v hv=>V.okB_ren frok v hv
   have ltF:∀ {i},i∈ρ→∀ {q},q<64→i≠base+q:=fun {i} hi {q} hq he=>by
    have h1:=pnew (hlt i hi)
    rw [Df.2 ⟨by omega,by omega⟩] at h1
    cases h1
   have hnd:(ρ++GN base (n-ρ.length)).Nodup:=by
    refine List.nodup_append.2 ⟨hn,?_,?_⟩
    · have:∀ (m b:Nat),(GN b m).Nodup:=by
       intro m
       induction m with
       | zero=>intro b; exact Zbt
       | succ m ih=>intro b; exact Zbi.2 ⟨fun hh=>by have:=Kr.1 hh; omega,ih _⟩
      exact this _ _
    · intro a ha b hb hab
      have h2:=Kr.1 hb
      exact ltF ha (q:=b-base) (by omega) (by omega)
   -- what lies at a number
   have get:∀ {i c},AL.get (s.app (HR r (Uf ρ ρ.length base) 0 (ρ++GN base (n-ρ.length)))) i=some c →
     (∃ j c0,j<n∧Uf ρ ρ.length base j=i∧AL.get r j=some c0∧c=c0.ren (Uf ρ ρ.length base))∨(i ∉ ρ∧p i=true∧AL.get s i=some c):=fun {i c} hi=>by
    rw [Az.get_app] at hi
    by_cases hmem:i∈ρ++GN base (n-ρ.length)
    · rw [Mo.app_back r _ hnd hmem,Zar] at hi
      obtain⟨c0,h1,rfl⟩:=Zat.1 hi
      refine .inl ⟨_,c0,Am.1 (hin2 _ _ h1).1,?_,h1,rfl⟩
      rcases Zap.1 hmem with hm' | hm'
      · rw [KE hm',Ll (Kq hm'),J9 hm']
      · obtain⟨q1,q2⟩:=Kr.1 hm'
        rw [JA (fun hh=>ltF hh (q:=i-base) (by omega) (by omega)),Sm q1 q2,Lm (by omega)]
        omega
    · rw [Mo.app_not (fun x hx he=>hmem (by rw [← he]; exact Sn _ _ hx))] at hi
      have:=(hin _ _ hi).1
      exact .inr ⟨fun hh=>hmem (ZaR _ hh),this,hi⟩
   have frinj:∀ {a b},a<n→b<n→Uf ρ ρ.length base a=Uf ρ ρ.length base b→a=b:=fun {a b} ha hb hh=>by
    rcases Za2 a ρ.length with h1 | h1
    · rcases Za2 b ρ.length with h2 | h2
      · rw [Ll h1,Ll h2] at hh
        have:=E4 hn h1
        rw [hh,E4 hn h2] at this
        exact this.symm
      · rw [Ll h1,Lm h2] at hh
        exact absurd hh (ltF (C2 h1) (by omega))
    · rcases Za2 b ρ.length with h2 | h2
      · rw [Lm h1,Ll h2] at hh
        exact absurd hh.symm (ltF (C2 h2) (by omega))
      · rw [Lm h1,Lm h2] at hh; omega
   have hidden:∀ {i c},i ∉ ρ→AL.get s i=some c→(g i).nl=false→∃ x,w.heap[(g i).b]? = some x∧ZbJ F g (AL.get s) ρ w (g i).b=some x:=fun {i c} hi hc hnl=>by
    obtain⟨q1,q2,q3,q4⟩:=hm.own _ _ hc hnl
    refine⟨_,ZaB q2,?_⟩
    unfold ZbJ
    rw [q3]
    simp only
    rw [if_pos ⟨i,c,hc,hi,hnl,rfl⟩,ZaB q2]
   refine⟨⟨hm2.below,hm2.le,hm2.old,hm2.has,?_,?_,?_,?_,hm2.glo⟩,?_,hden,hren⟩
   · intro i c hi
     rcases get hi with⟨j,c0,hj,rfl,hc,rfl⟩ | ⟨h1,h3,h4⟩
     · have:=hm2.cell _ _ hc
       rw [hgf j (Am.2 hj)]
       exact this.renC hgf (hin2 _ _ hc).2
     · rw [hgb i h3]
       refine B2.agree hgb (hin _ _ h4).2 (B2.mono hle (B2.block (fun hnl=>?_) (hm.cell _ _ h4)))
       obtain⟨x,q1,q2⟩:=hidden h1 h4 hnl
       rw [q1]
       exact(hm2.ext _ _ q2).2.1
   · intro i c hi hnl
     rcases get hi with⟨j,c0,hj,rfl,hc,rfl⟩ | ⟨h1,h3,h4⟩
     · rw [hgf j (Am.2 hj)] at hnl ⊢
       obtain⟨q1,q2,q3,q4⟩:=hm2.own _ _ hc hnl
       refine⟨q1,q2,?_,q4⟩
       have hx:ZbJ F g (AL.get s) ρ w (g2 j).b=none:=q3
       unfold ZbJ at hx
       split at hx
       · cases hx
       · rename_i hy; exact hy
     · rw [hgb i h3] at hnl ⊢
       obtain⟨q1,q2,q3,q4⟩:=hm.own _ _ h4 hnl
       obtain⟨x,p1,p2⟩:=hidden h1 h4 hnl
       obtain⟨p3,p4,p5⟩:=hm2.ext _ _ p2
       exact⟨q1,(Zag.1 p4).1,q3,p5⟩
   · intro i j c d hi hj hni hnj hb
     rcases get hi with⟨a,c0,ha,rfl,hc,rfl⟩ | ⟨h1,h3,h4⟩
     · rw [hgf a (Am.2 ha)] at hni hb
       rcases get hj with⟨a',d0,ha',rfl,hd,rfl⟩ | ⟨h1',h3',h4'⟩
       · rw [hgf a' (Am.2 ha')] at hnj hb
         rw [hm2.inj _ _ _ _ hc hd hni hnj hb]
       · rw [hgb j h3'] at hnj hb
         obtain⟨x,p1,p2⟩:=hidden h1' h4' hnj
         have:=(hm2.own _ _ hc hni).2.2.1
         rw [hb] at this
         rw [show(⟨F.w,F.h,ZbJ F g (AL.get s) ρ w⟩:Fr).X (g j).b=ZbJ F g (AL.get s) ρ w (g j).b from rfl,p2] at this
         cases this
     · rw [hgb i h3] at hni hb
       rcases get hj with⟨a',d0,ha',rfl,hd,rfl⟩ | ⟨h1',h3',h4'⟩
       · rw [hgf a' (Am.2 ha')] at hnj hb
         obtain⟨x,p1,p2⟩:=hidden h1 h4 hni
         have:=(hm2.own _ _ hd hnj).2.2.1
         rw [← hb] at this
         rw [show(⟨F.w,F.h,ZbJ F g (AL.get s) ρ w⟩:Fr).X (g i).b=ZbJ F g (AL.get s) ρ w (g i).b from rfl,p2] at this
         cases this
       · rw [hgb j h3'] at hnj hb
         exact hm.inj _ _ _ _ h4 h4' hni hnj hb
   · intro b x hx
     have:ZbJ F g (AL.get s) ρ w b=some x:=by unfold ZbJ; rw [hx]
     exact hm2.ext b x this
   · intro i c hi
     rcases get hi with⟨j,c0,hj,rfl,hc,rfl⟩ | ⟨h1,h3,h4⟩
     · refine⟨frok j (Am.2 hj),?_⟩
       have:=(hin2 _ _ hc).2
       exact A7.okB_ren frok this
     · exact⟨Gi h3,A7.okB_imp (fun i hi=>Gi hi) (hin _ _ h4).2⟩
theorem Ag.sub {ρ:List Nat} {s:Az Ty} (hm:Ag F h g (AL.get s) w) (hn:ρ.Nodup) (hs:KC s ρ ρ=true):Ag F h (fun j=>g (AR ρ j)) (AL.get (Le s (CQ ρ) 0 ρ)) w:=by
 have hg:∀ i,A8 ρ i=true→(fun j=>g (AR ρ j)) (CQ ρ i)=g i:=fun i hi=>by
  simp only
  rw [J9 (Be.1 hi)]
 have get:∀ {j c},AL.get (Le s (CQ ρ) 0 ρ) j=some c→j<ρ.length∧∃ c0,AL.get s (AR ρ j)=some c0∧c=c0.ren (CQ ρ)∧c0.okB (A8 ρ)=true:=fun {j c} hj=>by
  rw [JB] at hj
  split at hj
  · rename_i hc
    obtain⟨c0,h1,rfl⟩:=Zat.1 hj
    rw [Nat.sub_zero] at h1
    exact⟨by omega,c0,h1,rfl,Hq hs _ (C2 (by omega)) _ h1⟩
  · cases hj
 refine⟨hm.below,hm.le,hm.old,hm.has,?_,?_,?_,hm.ext,hm.glo⟩
 · intro j c hj
   obtain⟨hlt,c0,h1,rfl,hok⟩:=get hj
   have:=hm.cell _ _ h1
   exact this.renC (g':=fun j=>g (AR ρ j)) (f:=CQ ρ) hg hok
 · intro j c hj hnl
   obtain⟨hlt,c0,h1,rfl,hok⟩:=get hj
   exact hm.own _ _ h1 hnl
 · intro i j c d hi hj hni hnj hb
   obtain⟨hlt,c0,h1,_,_⟩:=get hi
   obtain⟨hlt2,c1,h2,_,_⟩:=get hj
   have:=hm.inj _ _ _ _ h1 h2 hni hnj hb
   have e1:=E4 hn hlt
   rw [this,E4 hn hlt2] at e1
   exact e1.symm
end
section
variable {Ty:Nat→Type} [rT:∀ k,Rep (Ty k)] [RFs] [UM Ty] [UML Ty] {P:Program} {F:Fr} {h:Ad} {g:GE} {w:World} {s:Az Ty} {base:Nat}
def MM (g:GE) (h:Ad) (m:List (Nat×V Ty)) (t:Array Value):Prop:=∀ k v,AL.get m k=some v→∃ u,t[k]? = some u∧v.den g h u
def PP (p:Nat→Bool) (m:List (Nat×V Ty)):Prop:=∀ k v,AL.get m k=some v→v.okB p=true
theorem Nr {m:List (Nat×V Ty)} {t:Array Value} {d:List Deferred} (hk:MM g h m t):Lj g h (Gu m) ⟨t,d⟩:=fun x v hv=>by
 cases x with
 | tmp k =>
  obtain⟨u,h1,h2⟩:=hk k v hv
  show v.den g h (t.getD k Go.undef)
  rw [ZaA,h1]; exact h2
 | const c=>exact Xc hv
 | global g=>cases hv
 | func f =>
  replace hv:(bif Nat.blt f An then some (V.fn f [] []) else none)=some v:=hv
  cases hb:Nat.blt f An with
  | false=>rw [hb] at hv; cases hv
  | true =>
   rw [hb] at hv
   cases hv
   unfold V.den
   exact⟨[],[],by rw [PA hb]; rfl,by unfold V.dens; rfl,by unfold V.dens; rfl⟩
theorem AaW {m:List (Nat×V Ty)} {p:Nat→Bool} (hm:PP p m):O5 p (Gu m):=fun x v hv=>by
 cases x with
 | tmp k=>exact hm k v hv
 | const c=>exact Zn hv
 | global g=>cases hv
 | func f =>
  replace hv:(bif Nat.blt f An then some (V.fn f [] []) else none)=some v:=hv
  cases hb:Nat.blt f An with
  | false=>rw [hb] at hv; cases hv
  | true=>rw [hb] at hv; cases hv; rfl
theorem V.isCell_one {x:V Ty} {u:Value} (hx:x.isCell=true) (hd:x.den g h u):u.oneCell' = true:=by
 cases x <;> first | cases hx | skip
 all_goals unfold V.den at hd
 case int=>rw [hd]; rfl
 case bool=>rw [hd]; rfl
 case str=>rw [hd]; rfl
 case nilp=>rw [hd]; rfl
 case nils=>rw [hd]; rfl
 case nilm=>rw [hd]; rfl
 case nilf=>rw [hd]; rfl
 case nili=>rw [hd]; rfl
 case ptr=>rw [hd]; rfl
 case rpt=>rw [hd]; rfl
 case mp=>rw [hd]; rfl
 case bsl=>rw [hd]; rfl
 case hdr=>rw [hd]; split <;> rfl
 case lst=>obtain⟨a,c,h1,_⟩:=hd; rw [h1]; rfl
 case ept=>obtain⟨b,o,us,h1,_⟩:=hd; rw [h1]; rfl
 case fn=>obtain⟨as,bs,h1,_⟩:=hd; rw [h1]; rcases XZ _ as bs with e | ⟨x,y,z,e⟩ <;> rw [e] <;> rfl
 case ifc=>obtain⟨u',h1,_⟩:=hd; rw [h1]; rfl
theorem FH:∀ {xs:List (V Ty)} {us:List Value},DQ xs=true→V.dens g h xs us→∀ u∈us,u.oneCell' = true
 | [],us,_,hd,u,hu=>by unfold V.dens at hd; subst hd; simp at hu
 | x::xs,us,hb,hd,u,hu=>by
  unfold DQ at hb
  obtain⟨b1,b2⟩:=Ao hb
  unfold V.dens at hd
  obtain⟨v,vs,rfl,h1,h2⟩:=hd
  rcases Zam.1 hu with rfl | hu
  · exact V.isCell_one b1 h1
  · exact FH b2 h2 u hu
def F5 (g:GE) (i:Nat) (a:GA):GE:=fun j=>if j=i then a else g j
theorem CT {p:Nat→Bool} {i:Nat} {a:GA} (hf:Dg p i) {j:Nat} (hj:p j=true):F5 g i a j=g j:=by
 unfold F5
 rw [if_neg]
 intro hh
 subst hh
 rw [hf j (Df.2 ⟨Zal _,by omega⟩)] at hj
 cases hj
theorem BA {i:Nat} {a:GA}:F5 g i a i=a:=by unfold F5; rw [if_pos rfl]
theorem EV.up {p:Nat→Bool} {M:Mo Ty} (hin:EV p M):EV (Rj p base) M:=fun i c hi=>⟨Gi (hin i c hi).1,A7.okB_imp (fun j hj=>Gi hj) (hin i c hi).2⟩
theorem Xe {p:Nat→Bool} {v:V Ty} (hv:v.okB p=true):v.okB (Rj p base)=true:=V.okB_imp (fun j hj=>Gi hj) v hv
theorem Tp {p:Nat→Bool} {v:List (V Ty)} (hv:V.oksB p v=true):V.oksB (Rj p base) v=true:=V.oksB_imp (fun j hj=>Gi hj) v hv
theorem DB {p:Nat→Bool}:Rj p base base=true:=Yg (Zal _) (by omega)
theorem EV.put {p:Nat→Bool} {i:Nat} {M:Mo Ty} {c:A7 Ty} (hin:EV p M) (hi:p i=true) (hc:c.okB p=true):EV p (M.put i (some c)):=fun j d hj=>by
 unfold Mo.put at hj
 split at hj
 · rename_i hh; cases hj; exact⟨by rw [hh]; exact hi,hc⟩
 · exact hin j d hj
theorem EV.del {p:Nat→Bool} {i:Nat} {M:Mo Ty} (hin:EV p M):EV p (M.put i none):=fun j d hj=>by
 unfold Mo.put at hj
 split at hj
 · cases hj
 · exact hin j d hj
theorem EV.none {p:Nat→Bool} {M:Mo Ty} (hf:Dg p base) (hin:EV p M):M base=none:=by
 cases hx:M base with
 | none=>rfl
 | some c=>have:=(hin _ _ hx).1; rw [hf base (Df.2 ⟨Zal _,by omega⟩)] at this; cases this
theorem Ag.newB {M:Mo Ty} {w':World} {c:A7 Ty} {a:GA} (hm:Ag F h g M w) {p:Nat→Bool} (hf:Dg p base) (hin:EV p M) (hg:w.grownBy w' none) (hb:w.heap.size≤a.b) (hb':a.b<w'.heap.size) (hc:B2 h (F5 g base a) a w' c) :
  Ag F h (F5 g base a) (M.put base (some c)) w':=by
 have hm2:Ag F h (F5 g base a) M w:=hm.agree (p:=p) (fun i hi=>CT hf hi) fun i c hi=>hin i c hi
 have hn:M base=none:=hin.none hf
 refine hm2.new hg hn ?_ ?_ ?_
 · rw [BA]; exact hb
 · rw [BA]; exact hb'
 · rw [BA]; exact hc
theorem Ag.newNil {M:Mo Ty} {k:Nat} {a:GA} (hm:Ag F h g M w) {p:Nat→Bool} (hf:Dg p base) (hin:EV p M) (ha:a.nl=true) (hn:a.n=0):Ag F h (F5 g base a) (M.put base (some (.row k []))) w:=by
 have hm2:Ag F h (F5 g base a) M w:=hm.agree (p:=p) (fun i hi=>CT hf hi) fun i c hi=>hin i c hi
 have hM:M base=none:=hin.none hf
 refine hm2.newC hM ?_ ?_
 · rw [BA]; exact⟨by rw [hn]; rfl,by rw [if_pos ha]; exact hn⟩
 · rw [BA]; intro hh; rw [ha] at hh; cases hh
variable [UV Ty] [UL Ty]
theorem NU {E:Nat} {x:Ty E} (w:World) (hh:Vg P E=some x):∃ z us,(zeroValue E).run P w=.ok z w∧rep h x us∧z.cells.toList=us∧∃ i,P.info? E=some i∧i.zero=some z:=by
 unfold Vg at hh
 split at hh
 · rename_i cs hcs
   obtain⟨z,h1,h2,h3⟩:=FV (g:=fun _=>⟨0,0,0,false⟩) (h:=h) w hcs
   exact⟨z,_,h1,UL.pack_rep _ h E _ x _ hh h2,rfl,h3⟩
 · cases hh
theorem Gv {E:Nat} (hh:FG (Ty:=Ty) P E=true):∃ i z,P.info? E=some i∧i.zero=some z∧i.size=Rep.sz (Ty E)∧z.cells.size=Rep.sz (Ty E)∧0<Rep.sz (Ty E)∧i.bytes≤10000:=by
 unfold FG at hh
 split at hh
 · rename_i i hi
   split at hh
   · rename_i z hz
     obtain⟨hh,b4⟩:=Ao hh
     obtain⟨hh,b3⟩:=Ao hh
     obtain⟨b1,b2⟩:=Ao hh
     have b1:=Zab b1
     have b2:=Zab b2
     have b3:=Zaf b3
     have b4:=Zaf b4
     rw [UL.sz_eq] at b1
     exact⟨i,z,hi,hz,b1,by rw [b2,b1],by rw [← b1]; exact b3,b4⟩
   · cases hh
 · cases hh
theorem Vn {E:Nat} (hh:FG (Ty:=Ty) P E=true):Hg P E=some (Rep.sz (Ty E)):=by
 obtain⟨i,z,h1,h2,h3,_⟩:=Gv hh
 simp [Hg,h1,h3]
theorem Tq {α:Type} (x:List α):∀ n,PE x n=(List.replicate n x).flatten
 | 0=>rfl
 | n+1=>by rw [PE,Tq x n,Zbx,List.flatten_cons]
theorem Hr {E sz:Nat} (hsz:sz=Rep.sz (Ty E)):∀ {n:Nat} {cs:List (V Ty)} {l:List (Ty E)} {us:List Value},Sg E sz n cs=some l→V.dens g h cs us→cs.length=n*sz→Ar h l us∧l.length=n
 | 0,cs,l,us,hh,hd,hl=>by
  cases hh
  have:us=[]:=Za3 (by rw [V.dens_len hd,hl]; simp)
  exact⟨this,rfl⟩
 | n+1,cs,l,us,hh,hd,hl=>by
  unfold Sg at hh
  split at hh
  · rename_i x hx
    split at hh
    · rename_i r hr
      cases hh
      have h1:=UL.pack_rep g h E _ x _ hx (V.dens_take sz hd)
      obtain⟨h2,h3⟩:=Hr hsz hr (V.dens_drop sz hd) (by rw [Zbo,hl,Zbc]; omega)
      exact⟨⟨us.take sz,us.drop sz,(Zba sz us).symm,h1,h2⟩,by simp [h3]⟩
    · cases hh
  · cases hh
theorem Vo {z:List (V Ty)} {zs:List Value} (hd:V.dens g h z zs):∀ n,V.dens g h (PE z n) (PE zs n)
 | 0=>by unfold PE V.dens; rfl
 | n+1=>by unfold PE; exact V.dens_append hd (Vo hd n)
end
section
variable {Ty:Nat→Type} [rT:∀ k,Rep (Ty k)] [RFs] [UM Ty] [UML Ty] {P:Program} {F:Fr} {h:Ad} {g:GE} {w w':World} {s:Az Ty} {base:Nat}
theorem Ag.setFree {M:Mo Ty} {b:Nat} (hm:Ag F h g M w) (hg:w.grownBy w' (some b)) (h1:F.w.heap.size≤b) (h2:F.X b=none) (h3:∀ o,h b o=none) (h4:∀ j d,M j=some d→(g j).nl=false→(g j).b≠b):Ag F h g M w':=by
 have hb:∀ c,c<w.heap.size→c≠b→w'.heap[c]? = w.heap[c]?:=fun c hc hne=>hg.block c hc (by simp; exact hne)
 refine⟨hm.below.trans ⟨hg.os,hg.tape,hg.output,hg.size,fun k hk=>hb k (Zai hk hm.size) (by omega)⟩,hm.le,hm.old,?_,?_,?_,hm.inj,?_,hm.glo⟩
 · intro c o v hv
   obtain⟨q1,q2⟩:=hm.has c o v hv
   have hne:c≠b:=fun hh=>by rw [hh,h3 o] at hv; cases hv
   exact⟨Zai q1 hg.size,by rw [Cd (hb c q1 hne)]; exact q2⟩
 · exact fun i c hi=>(hm.cell i c hi).block fun hn=>hb _ (hm.own i c hi hn).2.1 (h4 i c hi hn)
 · intro i c hi hn
   obtain⟨q1,q2,q3⟩:=hm.own i c hi hn
   exact⟨q1,Zai q2 hg.size,q3⟩
 · intro c x hx
   obtain⟨q1,q2,q3⟩:=hm.ext c x hx
   have hne:c≠b:=fun hh=>by rw [hh,h2] at hx; cases hx
   exact⟨q1,by rw [hb c (Zag.1 q2).1 hne]; exact q2,q3⟩
def Vp (F:Fr) (h:Ad) (g:GE) (p:Nat→Bool) (base:Nat) (M:Mo Ty) (K:Act→World→Prop) (Q:Exit→Act→World→Prop) (a:Act) (dst:Option Tmp):Oc Ty→Prop
 | .ok v ws=>∀ (h':Ad)(g':GE)(w':World)(u:Value),Ad.le h h'→(∀ i,p i=true→g' i=g i)→Ag F h' g' (Mo.app M ws) w'→EV (Rj p base) (Mo.app M ws)→v.den g' h' u→v.okB (Rj p base)=true→K (a.put dst u) w'
 | .pan v ws=>∀ (h':Ad)(g':GE)(w':World)(u:Value),Ad.le h h'→(∀ i,p i=true→g' i=g i)→Ag F h' g' (Mo.app M ws) w'→EV (Rj p base) (Mo.app M ws)→v.den g' h' u→v.okB (Rj p base)=true→Q (.panic [{ v:=u,recovered:=false }]) a w'
variable [UV Ty] [UL Ty] {K:Act→World→Prop} {Q:Exit→Act→World→Prop} {t:Array Value} {d:List Deferred} {m:List (Nat×V Ty)} {o:Oper}
theorem Vq {T:TypeId} {tb:Nat} (htb:tb=0∨T=tb) {cs:List (V Ty)} {v:Value} (hm:Ag F h g (AL.get s) w) {p:Nat→Bool} (hf:Dg p base) (hin:EV p (AL.get s)) (hc:V.dens g h cs v.cells.toList) (hcok:V.oksB p cs=true) (hone:DQ cs=true)
  (hrun:(execOp (Act.mk t d).eval o).run P w=.ok (.value (.pointer (some ⟨w.heap.size,0,none⟩))) (w.alloc (.cells v.cells T)))
  (hK:Vp F h g p base (AL.get s) K Q ⟨t,d⟩ o.dst (.ok (.ptr base 0) [(base,some (.blk tb cs))])):o.wp P ⟨t,d⟩ w K Q:=by
 unfold Oper.wp
 rw [hrun]
 refine hK h (F5 g base ⟨w.heap.size,0,0,false⟩) _ _ (Ad.le_refl _) (fun i hi=>CT hf hi) ?_ ?_ ?_ ?_
 · refine hm.newB hf hin (World.grownBy_alloc w _ none) (Zal _) (by simp) ⟨rfl,v.cells.toList,T,?_,?_,?_,htb⟩
   · rw [ZaX]; exact HP w _
   · exact V.dens_agree (p:=p) (fun i hi=>CT hf hi) hcok hc
   · exact FH hone hc
 · exact hin.up.put DB (Tp hcok)
 · unfold V.den; rw [BA]
 · unfold V.okB; exact DB
theorem Vr {T:TypeId} {k:Nat} {l:List (Ty k)} {v:Value} (hm:Ag F h g (AL.get s) w) {p:Nat→Bool} (hf:Dg p base) (hin:EV p (AL.get s)) (hc:Ar h l v.cells.toList)
  (hrun:(execOp (Act.mk t d).eval o).run P w=.ok (.value (.pointer (some ⟨w.heap.size,0,none⟩))) (w.alloc (.cells v.cells T)))
  (hK:Vp F h g p base (AL.get s) K Q ⟨t,d⟩ o.dst (.ok (.ptr base 0) [(base,some (.arr k l))])):o.wp P ⟨t,d⟩ w K Q:=by
 unfold Oper.wp
 rw [hrun]
 refine hK h (F5 g base ⟨w.heap.size,0,0,false⟩) _ _ (Ad.le_refl _) (fun i hi=>CT hf hi) ?_ ?_ ?_ ?_
 · refine hm.newB hf hin (World.grownBy_alloc w _ none) (Zal _) (by simp) ⟨rfl,v.cells.toList,T,?_,hc⟩
   rw [ZaX]; exact HP w _
 · exact hin.up.put DB rfl
 · unfold V.den; rw [BA]
 · unfold V.okB; exact DB
theorem NV {T:TypeId} {z:Value} (a:Act) (hop:o.op=.alloc T) (hz:(zeroValue T).run P w=.ok z w):(execOp a.eval o).run P w=.ok (.value (.pointer (some ⟨w.heap.size,0,none⟩))) (w.alloc (.cells z.cells T)):=by
 unfold execOp
 simp only [hop,Instr.alloc,Sem.run_bind,hz,Result.andThen_ok,P5,Sem.run_pure]
theorem So {T:TypeId} {x:Operand} (a:Act) (hop:o.op=.box T x):(execOp a.eval o).run P w=.ok (.value (.pointer (some ⟨w.heap.size,0,none⟩))) (w.alloc (.cells (a.eval x).cells T)):=by
 unfold execOp
 simp only [hop,Instr.box,Sem.run_bind,P5,Result.andThen_ok,Sem.run_pure]
theorem PQ {T:TypeId} {oc:Oc Ty} (hop:o.op=.alloc T) (hm:Ag F h g (AL.get s) w) {p:Nat→Bool} (hf:Dg p base) (hin:EV p (AL.get s)) (hr:(O2.blkZ (Ty:=Ty) P base T).runK some=some oc) (hK:Vp F h g p base (AL.get s) K Q ⟨t,d⟩ o.dst oc):o.wp P ⟨t,d⟩ w K Q:=by
 unfold O2.blkZ at hr
 split at hr
 · rename_i z hz
   cases hb:DQ z with
   | false=>rw [hb] at hr; cases hr
   | true =>
    rw [hb] at hr; cases hr
    obtain⟨zv,h1,h2,_⟩:=FV (g:=g) (h:=h) w hz
    exact Vq (.inr rfl) hm hf hin h2 (Mn hz) hb (NV _ hop h1) hK
 · cases hr
theorem Vs {T:TypeId} {call:AT Ty} {oc:Oc Ty} (hop:o.op=.alloc T) (hm:Ag F h g (AL.get s) w) {p:Nat→Bool} (hf:Dg p base) (hin:EV p (AL.get s)) (hr:(O2 P call base m s (.alloc T)).runK some=some oc) (hK:Vp F h g p base (AL.get s) K Q ⟨t,d⟩ o.dst oc):o.wp P ⟨t,d⟩ w K Q:=by
 rw [O2] at hr
 split at hr
 · rename_i n E hT
   cases hb:(UV.typed Ty E && J2 (Ty:=Ty) P E) with
   | false=>rw [hb] at hr; exact PQ hop hm hf hin hr hK
   | true =>
    rw [hb,Zac] at hr
    obtain⟨_,b2⟩:=Ao hb
    split at hr
    · rename_i z hz
      cases hb2:Nat.beq z.length (n*UV.sz Ty E) with
      | false=>rw [hb2] at hr; cases hr
      | true =>
       rw [hb2,Zac] at hr
       have hl:=Zab hb2
       split at hr
       · rename_i l hpl
         cases hr
         obtain⟨zv,h1,h2,_⟩:=FV (g:=g) (h:=h) w hz
         obtain⟨q1,_⟩:=Hr (g:=g) (h:=h) (UL.sz_eq E) hpl h2 hl
         exact Vr hm hf hin q1 (NV _ hop h1) hK
       · cases hr
    · cases hr
 · exact PQ hop hm hf hin hr hK
 · cases hr
theorem Zp {T:TypeId} {x:Operand} {call:AT Ty} {oc:Oc Ty} (hop:o.op=.box T x) (hm:Ag F h g (AL.get s) w) {p:Nat→Bool} (hf:Dg p base) (hin:EV p (AL.get s)) (he:Lj g h (Gu m) ⟨t,d⟩) (hi:O5 p (Gu m)) (hr:(O2 P call base m s (.box T x)).runK some=some oc) (hK:Vp F h g p base (AL.get s) K Q ⟨t,d⟩ o.dst oc):o.wp P ⟨t,d⟩ w K Q:=by
 rw [O2] at hr
 split at hr
 · rename_i k l hx
   cases hr
   have h1:=he x _ hx
   unfold V.den at h1
   obtain⟨us,h1,h2⟩:=h1
   exact Vr hm hf hin (v:=(Act.mk t d).eval x) (by rw [h1]; exact h2) (So _ hop) hK
 · rename_i v hna hx
   split at hr
   · rename_i cs hcs
     cases hb:DQ cs with
     | false=>rw [hb] at hr; cases hr
     | true =>
      rw [hb] at hr; cases hr
      exact Vq (.inl rfl) hm hf hin (V.den_cells (he x v hx) hcs) (V.cells_ok (hi x v hx) hcs) hb (So _ hop) hK
   · cases hr
 · cases hr
end
section
variable {Ty:Nat→Type} [rT:∀ k,Rep (Ty k)] [RFs] [UM Ty] [UML Ty] {P:Program} {F:Fr} {h:Ad} {g:GE} {w w':World} {s:Az Ty} {base:Nat}
variable {K:Act→World→Prop} {Q:Exit→Act→World→Prop} {t:Array Value} {d:List Deferred} {m:List (Nat×V Ty)} {o:Oper}
theorem KG {cs vs out:List (V Ty)} {us ws:List Value} {off:Nat} (hs:Ho cs off vs=some out) (hc:V.dens g h cs us) (hv:V.dens g h vs ws):off+ws.length≤us.length∧V.dens g h out (us.take off++ws++us.drop (off+ws.length)):=by
 unfold Ho at hs
 cases hb:Nat.ble (off+vs.length) cs.length with
 | false=>rw [hb] at hs; cases hs
 | true =>
  rw [hb] at hs; cases hs
  have:=Zaf hb
  rw [V.dens_len hc,V.dens_len hv]
  exact⟨this,V.dens_append (V.dens_append (V.dens_take _ hc) hv) (V.dens_drop _ hc)⟩
theorem Xf {p:Nat→Bool} {cs vs out:List (V Ty)} {off:Nat} (hs:Ho cs off vs=some out) (hc:V.oksB p cs=true) (hv:V.oksB p vs=true):V.oksB p out=true:=by
 unfold Ho at hs
 cases hb:Nat.ble (off+vs.length) cs.length with
 | false=>rw [hb] at hs; cases hs
 | true=>rw [hb] at hs; cases hs; exact V.oksB_append (V.oksB_append (V.oksB_take _ hc) hv) (V.oksB_drop _ hc)
theorem Hs {T TT:TypeId} {a x:Operand} {b off:Nat} {cur ws:List Value} (hop:o.op=.store T a x) (ha:(Act.mk t d).eval a=.pointer (some ⟨b,off,none⟩)) (hx:((Act.mk t d).eval x).cells.toList=ws) (hsz:Hg P T=some ws.length) (hb:w.heap[b]? = some (.cells cur.toArray TT (0,0))) (hfit:off+ws.length≤cur.length) (hone:∀ u∈ws,u.oneCell' = true) :
  (execOp (Act.mk t d).eval o).run P w=.ok .skip (w.setRow b (cur.take off++ws++cur.drop (off+ws.length)).toArray):=by
 have hst:=run_storeCells_at P b off TT ws 0 _ w hb (by simpa using hfit) hone
 unfold execOp
 simp only [hop,ha,Instr.storeAt,Instr.sureAddr,storeVar,Sem.run_bind,Sem.run_pure,Result.andThen_ok,AW w hsz]
 have hs:((Act.mk t d).eval x).cells.size=ws.length:=by rw [← hx,ZaG]
 rw [if_neg (by rw [hs]; simp)]
 rw [hx]
 simp only [Nat.add_zero] at hst
 rw [hst]
 simp
theorem Vt {α:Type} (us ws:List α) (a sz off:Nat) (h1:off+ws.length≤sz) (h2:a+sz≤us.length) :
  us.take a++(((us.drop a).take sz).take off++ws++((us.drop a).take sz).drop (off+ws.length))++us.drop (a+sz)=us.take (a+off)++ws++us.drop (a+off+ws.length):=by
 have e1:us.take (a+off)=us.take a++((us.drop a).take sz).take off:=by
  rw [List.take_add,List.take_take,Nat.min_eq_left (by omega)]
 have e2:us.drop (a+off+ws.length)=((us.drop a).take sz).drop (off+ws.length)++us.drop (a+sz):=by
  have hx:=Zba sz (us.drop a)
  have hd:us.drop (a+off+ws.length)=(us.drop a).drop (off+ws.length):=by rw [List.drop_drop]; congr 1; omega
  rw [hd]
  conv=>lhs; rw [← hx]
  rw [ZaQ (by simp; omega),List.drop_drop]
 rw [e1,e2]
 simp [ZaC]
theorem Gw (w:World) (b:Nat) (cs:Array Value):w.grownBy (w.setRow b cs) (some b):=⟨rfl,rfl,rfl,by simp,fun k _ hne=>setRow_other w _ k _ (fun hh=>hne (by rw [hh]))⟩
variable [UV Ty] [UL Ty]
theorem Vu {T:TypeId} {a x:Operand} {call:AT Ty} {oc:Oc Ty} (hop:o.op=.store T a x) (hm:Ag F h g (AL.get s) w) {p:Nat→Bool} (hf:Dg p base) (hin:EV p (AL.get s)) (he:Lj g h (Gu m) ⟨t,d⟩) (hi:O5 p (Gu m)) (hr:(O2 P call base m s (.store T a x)).runK some=some oc) (hK:Vp F h g p base (AL.get s) K Q ⟨t,d⟩ o.dst oc):o.wp P ⟨t,d⟩ w K Q:=by
 rw [O2] at hr
 split at hr
 · rename_i i off v ha hx
   have hae:=he a _ ha
   unfold V.den at hae
   split at hr
   · rename_i cs hs
     split at hr
     · rename_i vs n hvs hsz
       cases hb:(Nat.beq n vs.length && DQ vs) with
       | false=>rw [hb] at hr; cases hr
       | true =>
        rw [hb,Zac] at hr
        obtain⟨b1,b2⟩:=Ao hb
        have b1:=Zab b1
        split at hr
        · rename_i cs' hsp
          cases hr
          obtain⟨us,TT,q1,q2,q3,q4,q5⟩:=hm.blkT hs
          have hvd:=V.den_cells (he x v hx) hvs
          have hlen:=V.dens_len hvd
          obtain⟨hfit,hd'⟩:=KG hsp q2 hvd
          unfold Oper.wp
          rw [Hs hop hae rfl (by rw [hsz,b1,hlen]) q1 hfit (FH b2 hvd)]
          refine hK h g _ _ (Ad.le_refl _) (fun _ _=>rfl) ?_ ?_ (by unfold V.den; rfl) rfl
          · refine hm.set hs q4 (Gw _ _ _) ⟨q4,_,TT,setRow_heap w _ _ _ TT (0,0) q1,hd',fun u hu=>?_,q5⟩
            rcases Zap.1 hu with hu | hu
            · rcases Zap.1 hu with hu | hu
              · exact q3 u (List.mem_of_mem_take hu)
              · exact FH b2 hvd u hu
            · exact q3 u (List.mem_of_mem_drop hu)
          · refine hin.up.put (Gi (hin _ _ hs).1) (Xf hsp ?_ (V.cells_ok ?_ hvs))
            · exact Tp (hin _ _ hs).2
            · exact Xe (hi x v hx)
        · cases hr
     · cases hr
   · rename_i k l hs
     split at hr
     · rename_i k' l' n E hT
       cases hb:(Nat.beq k' k && Nat.beq E k && Nat.beq off 0 && PC (Ty:=Ty) P T E n) with
       | false=>rw [hb] at hr; cases hr
       | true =>
        rw [hb,Zac] at hr
        obtain⟨hb,b4⟩:=Ao hb
        obtain⟨hb,b3⟩:=Ao hb
        obtain⟨b1,b2⟩:=Ao hb
        have b1:=Zab b1
        have b2:=Zab b2
        have b3:=Zab b3
        subst b2; subst b3; subst b1
        rw [Tr.runK_need] at hr
        cases hb5:(Nat.beq l.length n && Nat.beq l'.length n) with
        | false=>rw [hb5] at hr; cases hr
        | true =>
         rw [hb5] at hr
         cases hr
         obtain⟨c1,c2⟩:=Ao hb5
         have c1:=Zab c1
         have c2:=Zab c2
         unfold PC at b4
         split at b4
         · rename_i mm hsz
           obtain⟨q1,q2⟩:=Ao b4
           have q1:=Zab q1
           obtain⟨hnl,us,TT,hheap,hcells,_⟩:=hm.arr hs
           have hxe:=he x _ hx
           unfold V.den at hxe
           obtain⟨ws,hxe,hcells'⟩:=hxe
           have hwl:ws.length=us.length:=by rw [hcells'.len,hcells.len,c1,c2]
           unfold Oper.wp
           rw [Hs (ws:=ws) hop hae (by rw [hxe]; rfl) (by rw [hsz,q1,hcells'.len,c2,UL.sz_eq]) hheap (by omega) hcells'.one]
           refine hK h g _ _ (Ad.le_refl _) (fun _ _=>rfl) ?_ ?_ (by unfold V.den; rfl) rfl
           · refine hm.set hs hnl (Gw _ _ _) ⟨hnl,_,TT,setRow_heap w _ _ _ TT (0,0) hheap,?_⟩
             rw [hwl]
             simpa using hcells'
           · exact hin.up.put (Gi (hin _ _ hs).1) rfl
         · cases b4
     · cases hr
   · cases hr
 · rename_i k i j off v ha hx
   have hae:=he a _ ha
   unfold V.den at hae
   -- an element's new cells
   have elem:∀ {l:List (Ty k)} {us:List Value} {vs:List (V Ty)} {n:Nat} {y z:Ty k} {cs:List (V Ty)},Ar h l us→v.cells=some vs→Hg P T=some n→n=vs.length→DQ vs=true→l[j]? = some y→Ho (UV.view k y) off vs=some cs→UV.pack k cs=some z →
     ∃ ws,((Act.mk t d).eval x).cells.toList=ws∧Hg P T=some ws.length∧(∀ u∈ws,u.oneCell' = true)∧(j*Rep.sz (Ty k)+off)+ws.length≤us.length∧Ar h (l.set j z) (us.take (j*Rep.sz (Ty k)+off)++ws++us.drop (j*Rep.sz (Ty k)+off+ws.length)):=by
    intro l us vs n y z cs hc hvs hsz hn hb hy hsp hpk
    have hvd:=V.den_cells (he x v hx) hvs
    have hlen:=V.dens_len hvd
    obtain⟨ys,hys,hget⟩:=Ar.get (fun _=>trivial) hc hy
    obtain⟨hfit,hd'⟩:=KG hsp (UL.view_den g h k y ys hys) hvd
    have hrep:=UL.pack_rep g h k cs z _ hpk hd'
    have hyl:=Rep.len hys
    have hj:j<l.length:=(Zaq.1 hy).1
    have hul:=hc.len
    have hmul:j*Rep.sz (Ty k)+Rep.sz (Ty k)≤l.length*Rep.sz (Ty k):=by
     have:=Nat.mul_le_mul_right (Rep.sz (Ty k)) (show j+1≤l.length from hj)
     rwa [Zbc,Nat.one_mul] at this
    refine⟨_,rfl,by rw [hsz,hn,hlen],FH hb hvd,by omega,?_⟩
    have hset:=Ar.set hc hj hrep
    have hys2:ys=(us.drop (j*Rep.sz (Ty k))).take (Rep.sz (Ty k)):=by
     apply List.ext_getElem?
     intro q
     by_cases hq:q<ys.length
     · have h1:=hget q ys[q] (Zao hq)
       rw [List.getElem?_take,if_pos (by omega),List.getElem?_drop,h1,Zao hq]
     · rw [Za0 (by omega),Za0 (by simp; omega)]
    have hl2:(ys.take off++((Act.mk t d).eval x).cells.toList++ys.drop (off+((Act.mk t d).eval x).cells.toList.length)).length=Rep.sz (Ty k):=by simp only [Zan,ZaU,Zbo]; omega
    rw [hl2] at hset
    rw [hys2,Vt us _ (j*Rep.sz (Ty k)) (Rep.sz (Ty k)) off (by omega) (by omega)] at hset
    exact hset
   split at hr
   · rename_i k' l hs
     split at hr
     · rename_i hk
       subst hk
       split at hr
       · rename_i vs n hvs hsz
         cases hb:(Nat.beq n vs.length && DQ vs) with
         | false=>rw [hb] at hr; cases hr
         | true =>
          rw [hb,Zac,Tr.runK_ask] at hr
          obtain⟨b1,b2⟩:=Ao hb
          have b1:=Zab b1
          obtain⟨y,hy,hr⟩:=Zae.1 hr
          split at hr
          · rename_i cs hsp
            split at hr
            · rename_i z hpk
              cases hr
              obtain⟨hn,hrow⟩:=hm.row hs
              rcases hrow with⟨_,rfl⟩ | ⟨hnl,us,sp,hheap,hc,hcap,hnc,hml,_⟩
              · simp at hy
              · obtain⟨ws,e1,e2,e3,e4,e5⟩:=elem hc hvs hsz b1 b2 hy hsp hpk
                unfold Oper.wp
                rw [Hs (ws:=ws) hop hae e1 e2 hheap (by rw [Zan]; omega) e3]
                refine hK h g _ _ (Ad.le_refl _) (fun _ _=>rfl) ?_ ?_ (by unfold V.den; rfl) rfl
                · refine hm.set hs hnl (Gw _ _ _) ⟨by rw [← hn]; simp,?_⟩
                  rw [if_neg (by rw [hnl]; simp)]
                  refine⟨_,sp,?_,e5,?_,hnc,hml⟩
                  · have:=setRow_heap w (g i).b _ ((us++sp).take (j*Rep.sz (Ty k')+off)++ws++(us++sp).drop (j*Rep.sz (Ty k')+off+ws.length)).toArray k' (0,0) hheap
                    rw [ZaY (by omega),ZaQ (by omega),← ZaC] at this
                    rw [ZaY (by omega),ZaQ (by omega),← ZaC]
                    exact this
                  · rw [← hcap]
                    simp only [Zan,ZaU,Zbo]
                    omega
                · exact hin.up.put (Gi (hin _ _ hs).1) rfl
            · cases hr
          · cases hr
       · cases hr
     · cases hr
   · rename_i k' l hs
     split at hr
     · rename_i hk
       subst hk
       split at hr
       · rename_i vs n hvs hsz
         cases hb:(Nat.beq n vs.length && DQ vs) with
         | false=>rw [hb] at hr; cases hr
         | true =>
          rw [hb,Zac,Tr.runK_ask] at hr
          obtain⟨b1,b2⟩:=Ao hb
          have b1:=Zab b1
          obtain⟨y,hy,hr⟩:=Zae.1 hr
          split at hr
          · rename_i cs hsp
            split at hr
            · rename_i z hpk
              cases hr
              obtain⟨hnl,us,TT,hheap,hc,_⟩:=hm.arr hs
              obtain⟨ws,e1,e2,e3,e4,e5⟩:=elem hc hvs hsz b1 b2 hy hsp hpk
              unfold Oper.wp
              rw [Hs (ws:=ws) hop hae e1 e2 hheap e4 e3]
              refine hK h g _ _ (Ad.le_refl _) (fun _ _=>rfl) ?_ ?_ (by unfold V.den; rfl) rfl
              · exact hm.set hs hnl (Gw _ _ _) ⟨hnl,_,TT,setRow_heap w _ _ _ TT (0,0) hheap,e5⟩
              · exact hin.up.put (Gi (hin _ _ hs).1) rfl
            · cases hr
          · cases hr
       · cases hr
     · cases hr
   · cases hr
 · cases hr
end
section
variable {Ty:Nat→Type} [rT:∀ k,Rep (Ty k)] [RFs] [UM Ty] [UML Ty] {P:Program} {F:Fr} {h:Ad} {g:GE} {w w':World} {s:Az Ty} {base:Nat}
variable {K:Act→World→Prop} {Q:Exit→Act→World→Prop} {t:Array Value} {d:List Deferred} {m:List (Nat×V Ty)} {o:Oper}
variable [UV Ty] [UL Ty]
theorem Ns {k n:Nat} {l:List (Ty k)} {us:List Value} (hm:Ag F h g (AL.get s) w) {p:Nat→Bool} (hf:Dg p base) (hin:EV p (AL.get s)) (hc:Ar h l us) (hl:l.length=n) (hn:n≤maxLen)
  (hK:Vp F h g p base (AL.get s) K Q ⟨t,d⟩ o.dst (.ok (.hdr k base) [(base,some (.row k l))])):K ((Act.mk t d).put o.dst (.slice (some ⟨w.heap.size,0,none⟩) n n)) (w.alloc (.cells us.toArray k)):=by
 refine hK h (F5 g base ⟨w.heap.size,n,n,false⟩) _ _ (Ad.le_refl _) (fun i hi=>CT hf hi) ?_ ?_ ?_ ?_
 · refine hm.newB hf hin (World.grownBy_alloc w _ none) (Zal _) (by simp) ⟨hl,?_⟩
   rw [if_neg (by simp)]
   exact⟨us,[],by rw [Zbd]; exact HP w _,hc,by rw [Zbd,hc.len,hl],Zal _,hn⟩
 · exact hin.up.put DB rfl
 · unfold V.den; rw [BA]; rfl
 · unfold V.okB; exact DB
theorem PS {T E:TypeId} {len sz:Nat} {parts:Array (Nat×Operand)} {z cs:List (V Ty)} {vs:List (Nat×List (V Ty))} (a:Act) (hT:P.underlying T=some (.slice E)) (hsz:Hg P E=some sz) (hz:KB P E=some z) (hzl:z.length=sz) (h0:0<sz) (hlen:len*sz≤16777216) (he:Lj g h (Gu m) a) (hv:BQ.psV (Gu m) parts.toList=some vs) (hf:J1 (fun i=>some (i*sz,sz)) (PE z len) vs=some cs) :
  ∃ us,V.dens g h cs us∧us.length=len*sz∧(Instr.buildSlice T len (parts.map fun(i,x)=>(i,a.eval x))).run P w=.ok (.slice (some ⟨w.heap.size,0,none⟩) len len) (w.alloc (.cells us.toArray E)):=by
 obtain⟨zv,h1,h2,_⟩:=FV (g:=g) (h:=h) w hz
 have hzs:zv.cells.size=sz:=by rw [← ZaG,V.dens_len h2,hzl]
 obtain⟨l1,l2⟩:=Ko he hv
 obtain⟨us,q1,q2⟩:=Hp _ (pv:=parts.toList.map fun x=>(x.1,a.eval x.2)) hf (Vo h2 len) (by simp [l1]) l2
 have hfl:=KA zv.cells len
 rw [hzs,← Tq] at hfl
 have hz2:((Array.range (len*sz)).map (zv.cells[· % zv.cells.size]!))=(PE zv.cells.toList len).toArray:=by
  apply Array.ext'
  rw [hzs] at *
  exact hfl
 have hp:(Array.map (fun x=>(x.1,a.eval x.2)) parts).toList=parts.toList.map fun x=>(x.1,a.eval x.2):=by simp
 have hul:us.length=len*sz:=by
  have h3:∀ {ps:List (Nat×List (V Ty))} {c out:List (V Ty)},J1 (fun i=>some (i*sz,sz)) c ps=some out→out.length=c.length:=by
   intro ps
   induction ps with
   | nil=>intro c out hh; cases hh; rfl
   | cons p ps ih =>
    intro c out hh
    obtain⟨i,v⟩:=p
    unfold J1 at hh
    simp only at hh
    cases hb:(Nat.beq v.length sz && Nat.ble (i*sz+sz) c.length) with
    | false=>rw [hb] at hh; cases hh
    | true =>
     rw [hb] at hh
     obtain⟨b1,b2⟩:=Ao hb
     have b1:=Zab b1
     have b2:=Zaf b2
     rw [ih hh]
     simp only [Zan,ZaU,Zbo]
     omega
  rw [V.dens_len q2,h3 hf,Tq]
  simp [hzl]
 refine⟨us,q2,hul,?_⟩
 unfold Instr.buildSlice
 simp only [Sem.run_bind,run_underlying hT,Result.andThen_ok,AW w hsz]
 rw [if_neg (by omega)]
 by_cases hl0:len*sz=0
 · have hl0:len=0:=by
    rcases ZaW len with h' | h'
    · exact h'
    · have:=Nat.mul_pos h' h0; omega
   subst hl0
   simp only [Nat.zero_mul,if_true,Sem.run_bind,Sem.run_pure,Result.andThen_ok,hp]
   have q1':Instr.fill (fun i=>some (i*sz,sz)) #[] (parts.toList.map fun x=>(x.1,a.eval x.2))=some us.toArray:=q1
   have hr0:∀ f:Nat→Value,(Array.range 0).map f=#[]:=fun f=>Array.eq_empty_of_size_eq_zero (by simp)
   simp only [hr0,q1']
   simp [newRow]
 · simp only [if_neg hl0,Sem.run_bind,h1,Result.andThen_ok,Sem.run_pure,hp,hz2,q1]
   simp [newRow]
omit rT [UML Ty] [UV Ty] [UL Ty] in
theorem Mo.app_app:∀ (a b:List (Nat×Option (A7 Ty)))(M:Mo Ty),Mo.app M (a++b)=Mo.app (Mo.app M a) b
 | [],_,_=>rfl
 | (i,c)::a,b,M=>Mo.app_app a b (M.put i c)
omit rT [UML Ty] [UV Ty] [UL Ty] in
theorem AcR {v:V Ty} {s:Az Ty}:AL.get (Si v s).2=Mo.app (AL.get s) (Yb v s):=by
 unfold Si Yb
 split
 · rename_i k i
   split
   · rename_i k2 l hg
     cases hb:Nat.beq k2 k with
     | false=>rfl
     | true =>
      show AL.get (AL.del s i)=Mo.put (AL.get s) i none
      funext j; rw [AL.get_del]; unfold Mo.put
      by_cases hij:i=j
      · rw [if_pos hij,if_pos hij.symm]
      · rw [if_neg hij,if_neg (fun hh=>hij hh.symm)]
   · rfl
 · rfl
omit rT [UML Ty] [UV Ty] [UL Ty] in
theorem PT:∀ {vs:List (V Ty)} {s:Az Ty},AL.get (K2 vs s).2=Mo.app (AL.get s) (Tg vs s)
 | [],_=>rfl
 | v::r,s=>by
  show AL.get (K2 r (Si v s).2).2=Mo.app (AL.get s) (Yb v s++Tg r (Si v s).2)
  rw [Mo.app_app,← AcR,PT]
omit rT [UML Ty] [UV Ty] [UL Ty] in
theorem AcS {v:V Ty} {s:Az Ty} {i:Nat} {c:A7 Ty} (h:AL.get (Si v s).2 i=some c):AL.get s i=some c:=by
 unfold Si at h
 split at h
 · rename_i k j
   split at h
   · rename_i k2 l hg
     cases hb:Nat.beq k2 k with
     | false=>rw [hb] at h; exact h
     | true =>
      rw [hb] at h
      replace h:AL.get (AL.del s j) i=some c:=h
      rw [AL.get_del] at h
      split at h
      · cases h
      · exact h
   · exact h
 · exact h
omit rT [UML Ty] [UV Ty] [UL Ty] in
theorem Vv:∀ {vs:List (V Ty)} {s:Az Ty} {i:Nat} {c:A7 Ty},AL.get (K2 vs s).2 i=some c→AL.get s i=some c
 | [],_,_,_,h=>h
 | v::r,s,i,c,h=>AcS (Vv (vs:=r) (s:=(Si v s).2) h)
omit [UV Ty] [UL Ty] in
theorem AeL {v:V Ty} {h:Ad} {s:Az Ty} {u:Value} (hm:Ag F h g (AL.get s) w) (hv:v.den g h u):∃ h',Ad.le h h'∧Ag F h' g (AL.get (Si v s).2) w∧(Si v s).1.den g h' u:=by
 have same:∃ h',Ad.le h h'∧Ag F h' g (AL.get s) w∧v.den g h' u:=⟨h,Ad.le_refl _,hm,hv⟩
 unfold Si
 split
 · rename_i k i
   split
   · rename_i k2 l hg
     cases hb:Nat.beq k2 k with
     | false=>exact same
     | true =>
      have:=Zab hb
      subst this
      simp only [Zac]
      obtain⟨r1,r2⟩:=hm.row hg
      have hdel:AL.get (AL.del s i)=Mo.put (AL.get s) i none:=by
       funext j; rw [AL.get_del]; unfold Mo.put
       by_cases hij:i=j
       · rw [if_pos hij,if_pos hij.symm]
       · rw [if_neg hij,if_neg (fun hh=>hij hh.symm)]
      rcases r2 with⟨hnl,hl⟩ | ⟨hnl,us,sp,q1,q2,q3,q4,q5,q6⟩
      · refine⟨h,Ad.le_refl _,hm.less fun j c hj=>?_,?_⟩
        · rw [AL.get_del] at hj
          split at hj
          · cases hj
          · exact hj
        · subst hl
          unfold V.den at hv ⊢
          rw [hnl] at hv
          exact⟨none,0,hv,F0.nil⟩
      · obtain⟨h',e1,e2,e3⟩:=hm.settle hg hnl q1 (Ar.one q2)
        refine⟨h',e1,by rw [hdel]; exact e2,?_⟩
        unfold V.den at hv ⊢
        rw [hnl] at hv
        refine⟨some ⟨(g i).b,0,none⟩,(g i).c,by rw [r1]; exact hv,us,q2.mono e1,fun o x hx=>⟨_,rfl,rfl,?_⟩,by omega⟩
        rw [Zar]
        exact e3 o x hx
   · exact same
 · exact same
omit [UV Ty] [UL Ty] in
theorem AaX:∀ {vs:List (V Ty)} {h:Ad} {s:Az Ty} {us:List Value},Ag F h g (AL.get s) w→V.dens g h vs us→∃ h',Ad.le h h'∧Ag F h' g (AL.get (K2 vs s).2) w∧V.dens g h' (K2 vs s).1 us
 | [],h,s,us,hm,hv=>⟨h,Ad.le_refl _,hm,hv⟩
 | v::r,h,s,us,hm,hv=>by
  unfold V.dens at hv
  obtain⟨u,us',rfl,v1,v2⟩:=hv
  obtain⟨h1,a,a2,a3⟩:=AeL hm v1
  obtain⟨h2,b,b2,b3⟩:=AaX (vs:=r) a2 (V.dens_mono a _ _ v2)
  unfold K2
  refine⟨h2,Ad.le_trans a b,b2,?_⟩
  show V.dens g h2 (_::_) _
  unfold V.dens
  exact⟨u,us',rfl,V.den_mono b _ _ a3,b3⟩
theorem Nt {T:TypeId} {n:Nat} {ps:Array (Nat×Operand)} {call:AT Ty} {oc:Oc Ty} (hop:o.op=.buildSlice T n ps) (hm:Ag F h g (AL.get s) w) {p:Nat→Bool} (hf:Dg p base) (hin:EV p (AL.get s)) (he:Lj g h (Gu m) ⟨t,d⟩) (hi:O5 p (Gu m)) (hr:(O2 P call base m s (.buildSlice T n ps)).runK some=some oc) (hK:Vp F h g p base (AL.get s) K Q ⟨t,d⟩ o.dst oc):o.wp P ⟨t,d⟩ w K Q:=by
 rw [O2] at hr
 split at hr
 · rename_i E hT
   split at hr
   · rename_i sz z vs hsz hz hvs
     cases hb:(Nat.beq z.length sz && Nat.blt 0 sz && Nat.ble (n*sz) 16777216) with
     | false=>rw [hb] at hr; cases hr
     | true =>
      rw [hb,Zac] at hr
      obtain⟨hb,b3⟩:=Ao hb
      obtain⟨b1,b2⟩:=Ao hb
      have b1:=Zab b1
      have b2:0<sz:=Zaf b2
      have b3:=Zaf b3
      split at hr
      · rename_i cs hcs
        obtain⟨us,q1,q2,q3⟩:=PS (w:=w) ⟨t,d⟩ hT hsz hz b1 b2 b3 he hvs hcs
        have hn16:n≤16777216:=by
         have:=Nat.mul_le_mul_left n b2
         omega
        have hnm:n≤maxLen:=by unfold maxLen; omega
        have hex:(execOp (Act.mk t d).eval o).run P w=.ok (.value (.slice (some ⟨w.heap.size,0,none⟩) n n)) (w.alloc (.cells us.toArray E)):=by
         unfold execOp
         simp only [hop,Sem.run_bind]
         rw [q3]
         rfl
        cases hty:(UV.typed Ty E && FG (Ty:=Ty) P E) with
        | true =>
         rw [hty,Zac] at hr
         obtain⟨_,t2⟩:=Ao hty
         have hsz2:=Vn t2
         rw [hsz] at hsz2
         split at hr
         · rename_i l hpl
           cases hr
           obtain⟨p1,p2⟩:=Hr (g:=g) (h:=h) (Option.some.inj hsz2) hpl q1 (by rw [← V.dens_len q1,q2])
           unfold Oper.wp
           rw [hex]
           exact Ns hm hf hin p1 p2 hnm hK
         · split at hr
           · rename_i l hpl
             cases hr
             obtain⟨h',e1,e2,e3⟩:=AaX hm q1
             obtain⟨p1,p2⟩:=Hr (g:=g) (h:=h') (Option.some.inj hsz2) hpl e3 (by rw [← V.dens_len e3,q2])
             unfold Oper.wp
             rw [hex]
             refine Ns (Q:=Q) e2 hf (fun i c hi=>hin i c (Vv hi)) p1 p2 hnm fun h2 g2 w2 u r1 r2 r3 r4 r5 r6=>?_
             refine hK h2 g2 w2 u (Ad.le_trans e1 r1) r2 ?_ ?_ r5 r6
             · rw [Mo.app_app,← PT]; exact r3
             · rw [Mo.app_app,← PT]; exact r4
           · cases hr
        | false =>
         rw [hty,Zad] at hr
         cases hcb:DQ cs with
         | false=>rw [hcb] at hr; cases hr
         | true =>
          rw [hcb] at hr; cases hr
          unfold Oper.wp
          rw [hex]
          have hcok:V.oksB p cs=true:=by
           refine Mp _ hcs ?_ (Tm hi hvs)
           have hz':V.oksB p z=true:=Mn hz
           have:∀ n,V.oksB p (PE z n)=true:=by
            intro n
            induction n with
            | zero=>rfl
            | succ n ih=>exact V.oksB_append hz' ih
           exact this n
          refine hK h (F5 g base ⟨w.heap.size,0,0,false⟩) _ _ (Ad.le_refl _) (fun i hi=>CT hf hi) ?_ ?_ ?_ ?_
          · refine hm.newB hf hin (World.grownBy_alloc w _ none) (Zal _) (by simp) ⟨rfl,us,E,HP w _,V.dens_agree (p:=p) (fun i hi=>CT hf hi) hcok q1,FH hcb q1,.inl rfl⟩
          · exact hin.up.put DB (Tp hcok)
          · unfold V.den; rw [BA]
          · unfold V.okB; exact DB
      · cases hr
   · cases hr
 · cases hr
theorem Zq {x y:Operand} (hh:Tf x y=true):x=y:=by
 unfold Tf at hh
 split at hh
 · rw [Zab hh]
 · rw [Zab hh]
 · cases hh
theorem O6 {T:TypeId} {x y:Operand} {call:AT Ty} {oc:Oc Ty} (hop:o.op=.makeSlice T x y) (hm:Ag F h g (AL.get s) w) {p:Nat→Bool} (hf:Dg p base) (hin:EV p (AL.get s)) (he:Lj g h (Gu m) ⟨t,d⟩) (hr:(O2 P call base m s (.makeSlice T x y)).runK some=some oc) (hK:Vp F h g p base (AL.get s) K Q ⟨t,d⟩ o.dst oc):o.wp P ⟨t,d⟩ w K Q:=by
 rw [O2] at hr
 split at hr
 · rename_i E n hT hx
   cases hs:Tf x y with
   | false=>rw [hs] at hx; cases hx
   | true =>
    rw [hs,Zac] at hx
    have hxy:=Zq hs
    subst hxy
    split at hr
    · rename_i z hz
      cases hb:FG (Ty:=Ty) P E with
      | false=>rw [hb] at hr; cases hr
      | true =>
       rw [hb,Zac,Tr.runK_ask] at hr
       obtain⟨l,hl,hr⟩:=Zae.1 hr
       cases hr
       obtain⟨h0,hn9,rfl⟩:=AcF hl
       obtain⟨ii,zv',e1,e2,e3,e5,e6,e7⟩:=Gv hb
       obtain⟨zv,us,q1,q2,q3,ii2,q4,q5⟩:=NU (h:=h) w hz
       rw [e1] at q4; cases q4
       rw [e2] at q5; cases q5
       have hxe:=he x _ hx
       unfold V.den at hxe
       have hwr:IntKind.i64.wrap n=n:=IntWalk.i64_in _ (by omega)
       have hmul:(ii.bytes:Int)*n≤10000*1000000000:=by
        have h1:(ii.bytes:Int)*n≤10000*n:=Int.mul_le_mul_of_nonneg_right (by omega) h0
        have h2:(10000:Int)*n≤10000*1000000000:=by omega
        omega
       have hmul0:0≤(ii.bytes:Int)*n:=Int.mul_nonneg (by omega) h0
       have hrun:(Instr.makeSlice T (.int .i64 n) (.int .i64 n)).run P w=.ok (.slice (some ⟨w.heap.size,0,none⟩) n.toNat n.toNat) (w.alloc (.cells ((Array.range (n.toNat*ii.size)).map (zv'.cells[· % zv'.cells.size]!)) E)):=by
        unfold Instr.makeSlice
        simp only [Sem.run_bind,run_underlying hT,Result.andThen_ok,asInt,asIntOf,Sem.run_pure,hwr]
        have hti:(typeInfo E).run P w=.ok ii w:=by simp [typeInfo,e1]
        have hsz:(sizeOf E).run P w=.ok ii.size w:=by simp [sizeOf,typeInfo,e1]
        simp only [hti,Result.andThen_ok]
        have hc : ¬ ((((decide (n<0) || decide ((ii.bytes:Int)*n>2 ^ 48)) || decide (n<0)) || decide (n>n))=true):=by
         simp; omega
        rw [if_neg hc]
        simp only [Sem.run_bind,run_askRoom,Result.andThen_ok,hsz]
        by_cases hn:n.toNat*ii.size=0
        · have:n.toNat=0:=by
           rcases ZaW n.toNat with h' | h'
           · exact h'
           · have:=Nat.mul_pos h' e6; rw [← e3] at this; omega
          have ra:∀ f:Nat→Value,(Array.range 0).map f=#[]:=fun f=>Array.eq_empty_of_size_eq_zero (by simp)
          simp [this,newRow,ra]
        · simp only [if_neg hn,Sem.run_bind,q1,Result.andThen_ok,Sem.run_pure]
          simp [newRow]
       have hfl:=KA zv'.cells n.toNat
       rw [e5,← e3,q3] at hfl
       have hcells:((Array.range (n.toNat*ii.size)).map (zv'.cells[· % zv'.cells.size]!))=((List.replicate n.toNat us).flatten).toArray:=by
        apply Array.ext'
        rw [e5,← e3]
        exact hfl
       rw [hcells] at hrun
       have hex:(execOp (Act.mk t d).eval o).run P w=.ok (.value (.slice (some ⟨w.heap.size,0,none⟩) n.toNat n.toNat)) (w.alloc (.cells ((List.replicate n.toNat us).flatten).toArray E)):=by
        unfold execOp
        simp only [hop,hxe,Sem.run_bind,hrun,Result.andThen_ok,Sem.run_pure]
       unfold Oper.wp
       rw [hex]
       exact Ns hm hf hin (Ar.replicate q2 _) (by simp) (by unfold maxLen; omega) hK
    · cases hr
 · cases hr
end
end Go.Proofs.YtkpgggfibljflaaGreatDoor
