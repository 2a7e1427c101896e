/- The plain law. -/
import Derived.Test.YtokchpjijlebiaaBGP0
set_option linter.all false
namespace Go.Proofs.Ytokchpjijlebiaa
open Go Go.RowKit
theorem FF {x:Int} (h0 : -9223372036854775808≤x) (h1:x≤9223372036854775807):IntKind.i64.wrap x=x:=by
  simp [IntKind.wrap,IntKind.bits,IntKind.signed]; omega
theorem Cw (i:Nat) (h:i<1000000000000):IntKind.i64.wrap ((i:Int)+1)=((i+1:Nat):Int):=by
  rw [FF (by omega) (by omega)]; omega
theorem UO {α:Type} (xs:List α) (i:Nat):Co xs (i:Int)=xs[i]?:=rfl
theorem AC {α:Type} (xs:List α) (i:Nat) (h:i<xs.length):Co xs (i:Int)=some xs[i]:=by rw [UO,List.getElem?_eq_getElem h]
theorem C8 {α:Type} (xs ys:List α) (h:xs.length+ys.length≤1000000000):HU xs ys=some (xs++ys):=by
  unfold HU; rw [if_pos (by simpa using h)]
theorem Ry {α:Type} (xs:List α) (i:Nat) (y:α) (h:i<xs.length):upd xs (i:Int) y=some (xs.set i y):=by
  show(if i<xs.length then some (xs.set i y) else none)=_
  rw [if_pos h]
theorem Vg {α:Type} (n:Nat) (x:α) (h:n≤1000000000):mk (n:Int) x=some (List.replicate n x):=by
  unfold mk; rw [if_pos (by omega)]; rfl
theorem Az {α:Type} {xs:List α} {i:Nat} (h:i<xs.length):xs.drop i=xs[i]::xs.drop (i+1):=List.drop_eq_getElem_cons h
theorem Bu {α:Type} (xs:List α) (i:Nat):decide ((i:Int)<((xs.length:Nat):Int))=decide (i<xs.length):=by
  by_cases h:i<xs.length <;> simp [h]
theorem Mx (n:Nat) (l:List Int) (h:l.length≤1000):HO n l=some l:=by
  unfold HO
  simp [C8 [] l (by simp; omega)]
theorem IB (r:Af) (hb:r.legs.length≤1000):∀ (n i:Nat)(acc:List Rg),r.legs.length<n+i→i≤r.legs.length→acc.length=i→DQ n r acc (i:Int)=some (acc++r.legs.drop i)
  | 0,i,acc,h,hi,_=>by omega
  | n+1,i,acc,h,hi,ha=>by
    rw [DQ,Bu]
    by_cases hx:i<r.legs.length
    · simp only [hx,decide_true,cond_true,AC _ _ hx,Option.bind_some,Js]
      rw [C8 _ _ (by simp; omega)]
      simp only [Option.bind_some]
      rw [Cw i (by omega),IB r hb n (i+1) _ (by omega) (by omega) (by simp; omega),Az hx,List.append_assoc]
      rfl
    · have:i=r.legs.length:=by omega
      simp [this]
theorem IC (r:Af) (hb:r.buses.length≤1000):∀ (n i:Nat)(acc:List Cy),r.buses.length<n+i→i≤r.buses.length→acc.length=i→DR n r acc (i:Int)=some (acc++r.buses.drop i)
  | 0,i,acc,h,hi,_=>by omega
  | n+1,i,acc,h,hi,ha=>by
    rw [DR,Bu]
    by_cases hx:i<r.buses.length
    · simp only [hx,decide_true,cond_true,AC _ _ hx,Option.bind_some,Js]
      rw [C8 _ _ (by simp; omega)]
      simp only [Option.bind_some]
      rw [Cw i (by omega),IC r hb n (i+1) _ (by omega) (by omega) (by simp; omega),Az hx,List.append_assoc]
      rfl
    · have:i=r.buses.length:=by omega
      simp [this]
theorem ID (r:Af) (hb:r.spares.length≤1000):∀ (n i:Nat)(acc:List A7),r.spares.length<n+i→i≤r.spares.length→acc.length=i→DS n r acc (i:Int)=some (acc++r.spares.drop i)
  | 0,i,acc,h,hi,_=>by omega
  | n+1,i,acc,h,hi,ha=>by
    rw [DS,Bu]
    by_cases hx:i<r.spares.length
    · simp only [hx,decide_true,cond_true,AC _ _ hx,Option.bind_some]
      rw [C8 _ _ (by simp; omega)]
      simp only [Option.bind_some]
      rw [Cw i (by omega),ID r hb n (i+1) _ (by omega) (by omega) (by simp; omega),Az hx,List.append_assoc]
      rfl
    · have:i=r.spares.length:=by omega
      simp [this]
theorem PH (n:Nat) (r:Af) (hn:50≤n) (h1:r.legs.length≤20) (h2:r.buses.length≤20) (h3:r.spares.length≤20):GI n r=some r:=by
  unfold GI
  have e1:=IB r (by omega) n 0 [] (by omega) (by omega) rfl
  have e2:=IC r (by omega) n 0 [] (by omega) (by omega) rfl
  have e3:=ID r (by omega) n 0 [] (by omega) (by omega) rfl
  simp only [Int.natCast_zero,List.nil_append,List.drop_zero] at e1 e2 e3
  simp [Js,e1,e2,e3]
theorem Qw (n:Nat) (a:Am) (h1:a.holds.length≤20) (h2:a.turns.length≤20) (h3:a.spares.length≤20):Jt n a=some a:=by
  unfold Jt
  simp [Mx n _ (show a.holds.length≤1000 by omega),Mx n _ (show a.turns.length≤1000 by omega),C8 [] a.spares (by simp; omega)]
end Go.Proofs.Ytokchpjijlebiaa
namespace Go.Proofs.Ytokchpjijlebiaa
open Go Go.RowKit
def Cd (st turned turn:Int) (legs:List Int):Nat→Int→Int→List (Int×Int)
  | 0,_,_=>[]
  | n+1,tm,s=>if 0≤s∧s<st then(s,tm)::(if s=turned then Cd st turned turn legs n (tm+turn) (st-1-s) else match legs[s.toNat]? with
    | some d=>Cd st turned turn legs n (tm+d) (s+1)
    | none=>[]) else []
def Se (turn:Int) (legs:List Int):Prop:=0≤turn∧turn≤300∧legs.length≤20∧∀ d∈legs,0≤d∧d≤300
theorem E7 (n:Nat) (r:Af) (h:r.legs.length≤20):Bz n r=some ((r.legs.length:Int)+1):=by
  simp only [Bz]; rw [FF (by omega) (by omega)]
theorem Gn (n:Nat) (r:Af) (s:Int) (h:r.legs.length≤20):BR n r s=some (decide (0≤s∧s<(r.legs.length:Int)+1)):=by
  simp only [BR,E7 n r h,Bv,Option.bind_some]
  rw [FF (by omega) (by omega)]
  by_cases h1:0≤s
  · simp [h1]; omega
  · simp [h1]
theorem KZ {σ:Type} (yield_:σ→Int→Int→Option (σ×Bool)) (g:σ→Int→Int→Option σ) (hy:∀ s a b,yield_ s a b=(g s a b).map fun s'=>(s',true)) (q0:Bi) (q1:Af) (q2:A5) (hl:q1.legs.length≤20) (hq:Se q2.turn q2.legs) (hql:q2.legs.length=q1.legs.length)
    (ht:2*q0.turned+1<(q1.legs.length:Int)+1):∀ (n:Nat)(tm s:Int)(x:σ),0≤tm→tm+300*n≤1000000000→0≤s→s≤(q1.legs.length:Int)+1→(q1.legs.length:Int)+1-s<n →
    (AG n yield_ q0 q1 q2 tm s x).bind (fun o=>Ex.bind o (fun r=>some r) fun s=>some s)=(Cd ((q1.legs.length:Int)+1) q0.turned q2.turn q2.legs n tm s).foldlM (fun x p=>g x p.1 p.2) x
  | 0,tm,s,x,_,_,_,h1,h2=>by omega
  | n+1,tm,s,x,h0,hb,hs,h1,h2=>by
    have IH:=KZ yield_ g hy q0 q1 q2 hl hq hql ht n
    obtain⟨t0,t1,hq1,hq2⟩:=hq
    rw [AG,Cd,Gn n q1 s hl]
    by_cases hc:0≤s∧s<(q1.legs.length:Int)+1
    · simp only [hc,and_self,decide_true,Option.bind_some,cond_true,if_true,hy,List.foldlM_cons]
      cases hg:g x s tm with
      | none=>simp
      | some x' =>
        simp only [Option.map_some,Option.bind_some,cond_true,Option.bind_eq_bind,E7 n q1 hl]
        by_cases hst:s=q0.turned
        · simp only [hst,beq_self_eq_true,cond_true,if_true]
          subst hst
          rw [FF (x:=tm+q2.turn) (by omega) (by omega),FF (x:=(q1.legs.length:Int)+1-1) (by omega) (by omega),FF (x:=(q1.legs.length:Int)+1-1-q0.turned) (by omega) (by omega)]
          exact IH _ _ _ (by omega) (by omega) (by omega) (by omega) (by omega)
        · simp only [beq_eq_false_iff_ne.2 hst,cond_false,hst,if_false]
          by_cases hsl:s<(q2.legs.length:Int)
          · simp only [hsl,decide_true,cond_true]
            obtain⟨k,rfl⟩:∃ k:Nat,s=k:=⟨s.toNat,by omega⟩
            have hk:k<q2.legs.length:=by omega
            have hd:=hq2 _ (List.getElem_mem hk)
            rw [AC _ _ hk]
            simp only [Option.bind_some,Int.toNat_natCast,List.getElem?_eq_getElem hk]
            rw [FF (x:=tm+q2.legs[k]) (by omega) (by omega),FF (x:=(k:Int)+1) (by omega) (by omega)]
            exact IH _ _ _ (by omega) (by omega) (by omega) (by omega) (by omega)
          · simp only [hsl,decide_false,cond_false,Option.bind_some,Ex.bind]
            rw [List.getElem?_eq_none (by omega)]
            simp
    · simp only [hc,decide_false,Option.bind_some,cond_false,Ex.bind,if_false]
      simp
theorem OP {σ:Type} (n:Nat) (yield_:σ→Int→Int→Option (σ×Bool)) (g:σ→Int→Int→Option σ) (hy:∀ s a b,yield_ s a b=(g s a b).map fun s'=>(s',true)) (q0:Bi) (q1:Af) (q2:A5) (x:σ) (hl:q1.legs.length≤20) (hq:Se q2.turn q2.legs) (hql:q2.legs.length=q1.legs.length)
    (ht:2*q0.turned+1<(q1.legs.length:Int)+1) (h0:0≤q0.tm) (h1:q0.tm≤100000) (hn:30≤n) (hn2:n≤1000) (hs:0≤q0.stop) (hs2:q0.stop≤(q1.legs.length:Int)+1) :
    Bs n yield_ x q0 q1 q2=(Cd ((q1.legs.length:Int)+1) q0.turned q2.turn q2.legs n q0.tm q0.stop).foldlM (fun x p=>g x p.1 p.2) x :=
  KZ yield_ g hy q0 q1 q2 hl hq hql ht n q0.tm q0.stop x h0 (by omega) hs hs2 (by omega)
theorem Fq {st turned turn:Int} {legs:List Int} (ht:2*turned+1<st):∀ (n:Nat)(tm s:Int)(p:Int×Int),p∈Cd st turned turn legs n tm s→s≤p.1∧0≤p.1∧p.1<st
  | 0,_,_,_,h=>by simp [Cd] at h
  | n+1,tm,s,p,h=>by
    rw [Cd] at h
    split at h
    · rename_i hc
      rcases List.mem_cons.1 h with rfl | h
      · exact⟨Int.le_refl _,hc.1,hc.2⟩
      · split at h
        · have:=Fq ht n _ _ p h
          omega
        · split at h
          · have:=Fq ht n _ _ p h
            omega
          · simp at h
    · simp at h
theorem Ga {st turned turn:Int} {legs:List Int} (ht:2*turned+1<st):∀ (n:Nat)(tm s:Int),((Cd st turned turn legs n tm s).map Prod.fst).Nodup
  | 0,_,_=>by simp [Cd]
  | n+1,tm,s=>by
    rw [Cd]
    split
    · rename_i hc
      rw [List.map_cons,List.nodup_cons]
      split
      · rename_i hs
        refine⟨fun h=>?_,Ga ht n _ _⟩
        obtain⟨p,hp,hp2⟩:=List.mem_map.1 h
        have:=Fq ht n _ _ p hp
        simp only at hp2
        omega
      · split
        · refine⟨fun h=>?_,Ga ht n _ _⟩
          obtain⟨p,hp,hp2⟩:=List.mem_map.1 h
          have:=Fq ht n _ _ p hp
          simp only at hp2
          omega
        · simp
    · simp
def Np (st turned turn:Int) (legs:List Int) (n:Nat) (tm s k:Int):Option Int:=BC (Cd st turned turn legs n tm s) k
theorem HH {st turned:Int} {turn turn':Int} {legs legs':List Int} (ht:2*turned+1<st) (hl:legs.length=legs'.length) (hle:∀ (k:Nat)(d d':Int),legs[k]? = some d→legs'[k]? = some d'→d≤d') (h1:turn≤turn'):∀ (n:Nat)(tm tm' s k:Int),tm≤tm' →
    (Np st turned turn legs n tm s k=none∧Np st turned turn' legs' n tm' s k=none)∨∃ a b,Np st turned turn legs n tm s k=some a∧Np st turned turn' legs' n tm' s k=some b∧a≤b
  | 0,_,_,_,_,_=>.inl ⟨rfl,rfl⟩
  | n+1,tm,tm',s,k,h=>by
    unfold Np
    rw [Cd,Cd]
    by_cases hc:0≤s∧s<st
    · simp only [hc,and_self,if_true,BC]
      by_cases hk:s=k
      · simp only [hk,if_true]; exact .inr ⟨_,_,rfl,rfl,h⟩
      · simp only [hk,if_false]
        by_cases hs:s=turned
        · simp only [hs,if_true]
          exact HH ht hl hle h1 n _ _ _ k (by omega)
        · simp only [hs,if_false]
          cases hg:legs[s.toNat]? with
          | none =>
            have:legs'[s.toNat]? = none:=by rw [List.getElem?_eq_none_iff] at hg ⊢; omega
            simp [this,BC]
          | some d =>
            have hlt:s.toNat<legs.length:=by
              rcases Nat.lt_or_ge s.toNat legs.length with h' | h'
              · exact h'
              · rw [List.getElem?_eq_none h'] at hg; cases hg
            obtain⟨d',hd'⟩:∃ d',legs'[s.toNat]? = some d':=⟨_,List.getElem?_eq_getElem (by omega)⟩
            simp only [hd']
            have:=hle _ _ _ hg hd'
            exact HH ht hl hle h1 n _ _ _ k (by omega)
    · simp only [hc,if_false]; exact .inl ⟨rfl,rfl⟩
end Go.Proofs.Ytokchpjijlebiaa
namespace Go.Proofs.Ytokchpjijlebiaa
open Go Go.RowKit
def D6 (r:Af) (f:Rg→Int):Bd:=⟨r.buses.map fun b=>f b.tm,r.buses.map fun _=>f r.turn,List.replicate (r.buses.length+r.spares.length) (r.legs.map f)⟩
theorem Nq (r:Af) (f:Rg→Int) (F:Rg→Option Int) (hF:∀ x,F x=some (f x)) (hb:r.legs.length≤20):∀ (n i:Nat)(acc:List Int),r.legs.length<n+i→i≤r.legs.length→acc.length=i→B7 n r (Rw.mk F) acc (i:Int)=some (acc++(r.legs.drop i).map f)
  | 0,i,acc,h,hi,_=>by omega
  | n+1,i,acc,h,hi,ha=>by
    rw [B7,Bu]
    by_cases hx:i<r.legs.length
    · simp only [hx,decide_true,cond_true,AC _ _ hx,Option.bind_some,hF]
      rw [C8 _ _ (by simp; omega)]
      simp only [Option.bind_some]
      rw [Cw i (by omega),Nq r f F hF hb n (i+1) _ (by omega) (by omega) (by simp; omega),Az hx,List.append_assoc]
      rfl
    · have:i=r.legs.length:=by omega
      simp [this]
theorem La (n:Nat) (l:List Int) (h:l.length≤1000):Br n l=some l:=by
  unfold Br
  simp [C8 [] l (by simp; omega)]
theorem SL (n:Nat) (l:List Bool) (h:l.length≤1000):Cf n l=some l:=by
  unfold Cf
  simp [C8 [] l (by simp; omega)]
theorem Nr (r:Af) (f:Rg→Int) (F:Rg→Option Int) (hF:∀ x,F x=some (f x)) (hb:r.buses.length≤20) (L:List Int) (hL:L.length≤20):∀ (n i:Nat)(x y:List Int)(z:List (List Int)),r.buses.length<n+i→i≤r.buses.length→x.length=i→y.length=i→z.length=i →
    B8 n r (Rw.mk F) L x y z (i:Int)=some (L,x++(r.buses.drop i).map (fun b=>f b.tm),y++(r.buses.drop i).map (fun _=>f r.turn),z++(r.buses.drop i).map (fun _=>L))
  | 0,i,x,y,z,h,hi,_,_,_=>by omega
  | n+1,i,x,y,z,h,hi,h1,h2,h3=>by
    rw [B8,Bu]
    by_cases hx:i<r.buses.length
    · simp only [hx,decide_true,cond_true,AC _ _ hx,Option.bind_some,hF,La n L (by omega)]
      rw [C8 _ _ (by simp; omega),C8 _ _ (by simp; omega),C8 _ _ (by simp; omega)]
      simp only [Option.bind_some]
      rw [Cw i (by omega),Nr r f F hF hb L hL n (i+1) _ _ _ (by omega) (by omega) (by simp; omega) (by simp; omega) (by simp; omega),Az hx,List.append_assoc,List.append_assoc,List.append_assoc]
      rfl
    · have:i=r.buses.length:=by omega
      simp [this]
theorem Ns (r:Af) (hb:r.spares.length≤20) (L:List Int) (hL:L.length≤20):∀ (n i:Nat)(z:List (List Int)),r.spares.length<n+i→i≤r.spares.length→z.length≤100+i →
    B9 n r L z (i:Int)=some (L,z++List.replicate (r.spares.length-i) L)
  | 0,i,z,h,hi,_=>by omega
  | n+1,i,z,h,hi,h3=>by
    rw [B9,Bu]
    by_cases hx:i<r.spares.length
    · simp only [hx,decide_true,cond_true,Option.bind_some,La n L (by omega)]
      rw [C8 _ _ (by simp; omega)]
      simp only [Option.bind_some]
      rw [Cw i (by omega),Ns r hb L hL n (i+1) _ (by omega) (by omega) (by simp; omega),List.append_assoc]
      rw [show r.spares.length-i=(r.spares.length-(i+1))+1 by omega,List.replicate_succ]
      rfl
    · have:i=r.spares.length:=by omega
      simp [this]
theorem Sf (n:Nat) (r:Af) (f:Rg→Int) (F:Rg→Option Int) (hF:∀ x,F x=some (f x)) (hn:50≤n) (h1:r.legs.length≤20) (h2:r.buses.length≤20) (h3:r.spares.length≤20):Cq n r (Rw.mk F)=some (D6 r f):=by
  unfold Cq
  have e1:=Nq r f F hF h1 n 0 [] (by omega) (by omega) rfl
  have e2:=Nr r f F hF h2 (r.legs.map f) (by simp; omega) n 0 [] [] [] (by omega) (by omega) rfl rfl rfl
  have e3:=Ns r h3 (r.legs.map f) (by simp; omega) n 0 (r.buses.map fun _=>r.legs.map f) (by omega) (by omega) (by simp; omega)
  simp only [Int.natCast_zero,List.nil_append,List.drop_zero,Nat.sub_zero] at e1 e2 e3
  simp only [e1,Option.bind_some,e2,e3,D6,Option.some.injEq,Bd.mk.injEq,true_and]
  rw [List.map_const',List.replicate_append_replicate]
def BP (r:Af) (a:Am) (t:Bd) (i:Nat):Bi×A5:=(⟨(r.buses[i]!).stop,t.tm[i]! + a.holds[i]! * r.unit,a.turns[i]!⟩,⟨t.legs[i]!,t.turns[i]!⟩)
def GL (r:Af) (a:Am) (t:Bd) (j:Nat):Option (Bi×A5):=if a.spares[j]! then some (⟨(r.spares[j]!).stop,(r.spares[j]!).tm,-1⟩,⟨t.legs[r.buses.length+j]!,0⟩) else none
def Cz (r:Af) (a:Am) (t:Bd):List (Bi×A5):=(List.range r.buses.length).map (BP r a t)++(List.range r.spares.length).filterMap (GL r a t)
structure Kr (r:Af) (a:Am) (t:Bd):Prop where
  nb:r.buses.length≤6
  ns:r.spares.length≤4
  holds:a.holds.length=r.buses.length
  turns:a.turns.length=r.buses.length
  spares:a.spares.length=r.spares.length
  tm:t.tm.length=r.buses.length
  tt:t.turns.length=r.buses.length
  legs:t.legs.length=r.buses.length+r.spares.length
  hold:∀ x∈a.holds,0≤x∧x≤2
  unit:1≤r.unit∧r.unit≤30
  tms:∀ x∈t.tm,0≤x∧x≤10000
theorem Bp {α:Type} [Inhabited α] (l:List α) (i:Nat) (h:i<l.length):l[i]! = l[i]:=getElem!_pos l i h
theorem JX {x u:Int} (h0:0≤x) (h1:x≤2) (h2:1≤u) (h3:u≤30):0≤x*u∧x*u≤60:=by
  have:x=0∨x=1∨x=2:=by omega
  rcases this with rfl | rfl | rfl <;> omega
theorem My (r:Af) (a:Am) (t:Bd) (S:Kr r a t):∀ (n i:Nat)(x:List Bi)(y:List A5),r.buses.length<n+i→i≤r.buses.length→x.length=i→y.length=i →
    Bk n ⟨r,a⟩ t x y (i:Int)=some (x++((List.range r.buses.length).drop i).map (fun i=>(BP r a t i).1),y++((List.range r.buses.length).drop i).map (fun i=>(BP r a t i).2))
  | 0,i,x,y,h,hi,_,_=>by omega
  | n+1,i,x,y,h,hi,h1,h2=>by
    rw [Bk]
    simp only []
    rw [Bu]
    have:=S.nb
    by_cases hx:i<r.buses.length
    · have q1:i<a.holds.length:=by rw [S.holds]; exact hx
      have q2:i<a.turns.length:=by rw [S.turns]; exact hx
      have q3:i<t.tm.length:=by rw [S.tm]; exact hx
      have q4:i<t.turns.length:=by rw [S.tt]; exact hx
      have q5:i<t.legs.length:=by rw [S.legs]; omega
      have q6:i<(List.range r.buses.length).length:=by simpa using hx
      obtain⟨b1,b2⟩:=JX (S.hold _ (List.getElem_mem q1)).1 (S.hold _ (List.getElem_mem q1)).2 S.unit.1 S.unit.2
      have b3:=S.tms _ (List.getElem_mem q3)
      simp only [hx,decide_true,cond_true,AC _ _ hx,AC _ _ q1,AC _ _ q2,AC _ _ q3,AC _ _ q4,AC _ _ q5,Option.bind_some]
      rw [C8 _ _ (by simp; omega),C8 _ _ (by simp; omega)]
      simp only [Option.bind_some]
      rw [Cw i (by omega),My r a t S n (i+1) _ _ (by omega) (by omega) (by simp; omega) (by simp; omega),Az q6,List.append_assoc,List.append_assoc]
      rw [FF (x:=a.holds[i]*r.unit) (by omega) (by omega),FF (by omega) (by omega)]
      simp only [List.getElem_range,List.map_cons,BP,Bp _ _ hx,Bp _ _ q1,Bp _ _ q2,Bp _ _ q3,Bp _ _ q4,Bp _ _ q5]
      rfl
    · have:i=r.buses.length:=by omega
      simp [this]
theorem Jd (r:Af) (a:Am) (t:Bd) (S:Kr r a t):∀ (n i:Nat)(x:List Bi)(y:List A5),r.spares.length<n+i→i≤r.spares.length→x.length≤100+i→y.length≤100+i →
    AW n ⟨r,a⟩ t x y (i:Int)=some (x++(((List.range r.spares.length).drop i).filterMap (GL r a t)).map Prod.fst,y++(((List.range r.spares.length).drop i).filterMap (GL r a t)).map Prod.snd)
  | 0,i,x,y,h,hi,_,_=>by omega
  | n+1,i,x,y,h,hi,h1,h2=>by
    rw [AW]
    simp only []
    rw [Bu]
    have:=S.ns
    have:=S.nb
    by_cases hx:i<r.spares.length
    · have q1:i<a.spares.length:=by rw [S.spares]; exact hx
      have q5:r.buses.length+i<t.legs.length:=by rw [S.legs]; omega
      have q6:i<(List.range r.spares.length).length:=by simpa using hx
      simp only [hx,decide_true,cond_true,AC _ _ hx,AC _ _ q1,Option.bind_some]
      rw [Az q6]
      simp only [List.getElem_range,List.filterMap_cons,GL,Bp _ _ hx,Bp _ _ q1,Bp _ _ q5]
      cases hs:a.spares[i] with
      | true =>
        simp only [cond_true,if_true]
        rw [C8 _ _ (by simp; omega)]
        simp only [Option.bind_some]
        rw [FF (x:=((r.buses.length:Nat):Int)+(i:Int)) (by omega) (by omega),show((r.buses.length:Nat):Int)+(i:Int)=((r.buses.length+i:Nat):Int) by omega,AC _ _ q5]
        simp only [Option.bind_some]
        rw [C8 _ _ (by simp; omega)]
        simp only [Option.bind_some]
        rw [Cw i (by omega),Jd r a t S n (i+1) _ _ (by omega) (by omega) (by simp; omega) (by simp; omega),List.append_assoc,List.append_assoc]
        rfl
      | false =>
        simp only [cond_false]
        rw [Cw i (by omega),Jd r a t S n (i+1) _ _ (by omega) (by omega) (by omega) (by omega)]
        rfl
    · have:i=r.spares.length:=by omega
      have hd:(List.range r.spares.length).drop r.spares.length=[]:=List.drop_eq_nil_of_le (by simp)
      simp [this,hd]
theorem Qx (n:Nat) (r:Af) (a:Am) (t:Bd) (S:Kr r a t) (hn:50≤n):BV n ⟨r,a⟩ t=some ((Cz r a t).map Prod.fst,(Cz r a t).map Prod.snd):=by
  have:=S.nb
  have:=S.ns
  have e1:=My r a t S n 0 [] [] (by omega) (by omega) rfl rfl
  have e2:=Jd r a t S n 0 ((List.range r.buses.length).map fun i=>(BP r a t i).1) ((List.range r.buses.length).map fun i=>(BP r a t i).2) (by omega) (by omega) (by simp; omega) (by simp; omega)
  simp only [Int.natCast_zero,List.nil_append,List.drop_zero] at e1 e2
  unfold BV
  simp only [e1,Option.bind_some,e2,Cz,List.map_append,List.map_map]
  rfl
end Go.Proofs.Ytokchpjijlebiaa
namespace Go.Proofs.Ytokchpjijlebiaa
open Go Go.RowKit
def Mz (ms:List (List (Int×Rg))) (f:Int→List (Int×Rg)→List (Int×Rg)) (pl:List (Int×Int)):List (List (Int×Rg)):=pl.foldl (fun ms p=>ms.modify p.1.toNat (f p.2)) ms
theorem G7 (f:Int→List (Int×Rg)→List (Int×Rg)):∀ (pl:List (Int×Int))(ms:List (List (Int×Rg))),(Mz ms f pl).length=ms.length
  | [],_=>rfl
  | p::r,ms=>by
    show(Mz (ms.modify p.1.toNat (f p.2)) f r).length=_
    rw [G7 f r]; simp
theorem Ma (f:Int→List (Int×Rg)→List (Int×Rg)):∀ (pl:List (Int×Int))(ms:List (List (Int×Rg)))(k:Nat),(pl.map Prod.fst).Nodup→(∀ p∈pl,0≤p.1) →
    (Mz ms f pl)[k]? = (ms[k]?).map fun m=>match BC pl (k:Int) with | some t=>f t m | none=>m
  | [],ms,k,_,_=>by simp [Mz,BC]
  | p::r,ms,k,hn,h0=>by
    show(Mz (ms.modify p.1.toNat (f p.2)) f r)[k]? = _
    rw [List.map_cons,List.nodup_cons] at hn
    rw [Ma f r _ k hn.2 (fun q hq=>h0 q (List.mem_cons_of_mem _ hq)),List.getElem?_modify,BC]
    have hp:=h0 p (by simp)
    by_cases hk:p.1=(k:Int)
    · have hr:BC r (k:Int)=none:=Iw fun q hq hqk=>hn.1 (by rw [hk,← hqk]; exact List.mem_map_of_mem hq)
      have:p.1.toNat=k:=by omega
      simp only [this,if_true,if_pos hk,hr]
      cases ms[k]? <;> rfl
    · have:p.1.toNat≠k:=by omega
      simp only [this,hk,if_false]
      cases ms[k]? <;> rfl
theorem Mb (g:List (Option (List (Int×Rg)))→Int→Int→Option (List (Option (List (Int×Rg))))) (f:Int→List (Int×Rg)→List (Int×Rg)) (st:Nat)
    (hg:∀ (ms:List (List (Int×Rg)))(s:Nat)(t:Int),ms.length=st→s<st→g (ms.map some) (s:Int) t=some ((ms.modify s (f t)).map some)):∀ (pl:List (Int×Int))(ms:List (List (Int×Rg))),ms.length=st→(∀ p∈pl,0≤p.1∧p.1<(st:Int)) →
    pl.foldlM (fun x p=>g x p.1 p.2) (ms.map some)=some ((Mz ms f pl).map some)
  | [],ms,_,_=>rfl
  | p::r,ms,hm,hp=>by
    have h1:=hp p (by simp)
    rw [List.foldlM_cons]
    have:g (ms.map some) p.1 p.2=some ((ms.modify p.1.toNat (f p.2)).map some):=by
      have:=hg ms p.1.toNat p.2 hm (by omega)
      rwa [show((p.1.toNat:Nat):Int)=p.1 by omega] at this
    rw [this]
    exact Mb g f st hg r _ (by simpa using hm) fun q hq=>hp q (List.mem_cons_of_mem _ hq)
theorem IE {α:Type} (f:α→α):∀ (ms:List α)(s:Nat),(h:s<ms.length)→(ms.map some).set s (some (f ms[s]))=(ms.modify s f).map some:=by
  intro ms s h
  apply List.ext_getElem?
  intro k
  rw [List.getElem?_map,List.getElem?_modify,List.getElem?_set]
  by_cases hk:s=k
  · subst hk; simp [h]
  · simp [hk]
def Eo (st:Int) (n:Nat) (p:(Bi×A5)×(Bi×A5)) (k:Int):Option Rg:=match BC (Cd st p.1.1.turned p.1.2.turn p.1.2.legs n p.1.1.tm p.1.1.stop) k,BC (Cd st p.2.1.turned p.2.2.turn p.2.2.legs n p.2.1.tm p.2.1.stop) k with
  | some a,some b=>some ⟨a,b⟩
  | _,_=>none
def UP (st:Int) (n:Nat) (p:(Bi×A5)×(Bi×A5)):Prop:=∀ k,BC (Cd st p.1.1.turned p.1.2.turn p.1.2.legs n p.1.1.tm p.1.1.stop) k=none↔BC (Cd st p.2.1.turned p.2.2.turn p.2.2.legs n p.2.1.tm p.2.1.stop) k=none
structure EG (r:Af) (p:Bi×A5):Prop where
  q:Se p.2.turn p.2.legs
  len:p.2.legs.length=r.legs.length
  t:2*p.1.turned+1<(r.legs.length:Int)+1
  tm0:0≤p.1.tm
  tm1:p.1.tm≤100000
  s0:0≤p.1.stop
  s1:p.1.stop≤(r.legs.length:Int)+1
theorem Qy {K α:Type} [DecidableEq K]:∀ {l:List (K×α)} {k:K} (x:α),(∀ p∈l,p.1≠k)→EJ l k x=l++[(k,x)]
  | [],_,_,_=>rfl
  | p::r,k,x,h=>by
    rw [EJ,if_neg (h p (by simp)),Qy x fun q hq=>h q (List.mem_cons_of_mem _ hq)]
    rfl
theorem Qz {K α:Type} [DecidableEq K]:∀ {l:List (K×α)} {k:K} (x y:α),(∀ p∈l,p.1≠k)→EJ (l++[(k,x)]) k y=l++[(k,y)]
  | [],k,x,y,_=>by simp [EJ]
  | p::r,k,x,y,h=>by
    rw [List.cons_append,EJ,if_neg (h p (by simp)),Qz x y fun q hq=>h q (List.mem_cons_of_mem _ hq)]
    rfl
theorem Nt {K α:Type} [DecidableEq K]:∀ {l:List (K×α)} {k:K} (x:α),(∀ p∈l,p.1≠k)→BC (l++[(k,x)]) k=some x
  | [],k,x,_=>by simp [BC]
  | p::r,k,x,h=>by
    rw [List.cons_append,BC,if_neg (h p (by simp)),Nt x fun q hq=>h q (List.mem_cons_of_mem _ hq)]
def g1 (i:Int) (s:List (Option (List (Int×Rg)))) (a b:Int):Option (List (Option (List (Int×Rg)))):=(Co s a).bind fun x66=>x66.bind fun m=>(upd s a (some (EJ m i (Rg.mk b b)))).bind fun u=>some u
def g2 (i:Int) (s:List (Option (List (Int×Rg)))) (a b:Int):Option (List (Option (List (Int×Rg)))):=(Co s a).bind fun x87=>(Co s a).bind fun x92=>x92.bind fun m_514=>x87.bind fun m_527=>(upd s a (some (EJ m_527 i (Rg.mk (Gg m_514 i ((Rg.mk 0 0):Rg)).1.lo b)))).bind fun u=>some u
theorem UQ (i:Int) (st:Nat) (ms:List (List (Int×Rg))) (s:Nat) (t:Int) (h1:ms.length=st) (h2:s<st):g1 i (ms.map some) (s:Int) t=some ((ms.modify s (fun m=>EJ m i (Rg.mk t t))).map some):=by
  have hs:s<ms.length:=by omega
  unfold g1
  rw [AC _ s (by simpa using hs)]
  simp only [Option.bind_some,List.getElem_map]
  rw [Ry _ s _ (by simpa using hs)]
  simp only [Option.bind_some]
  rw [IE (fun m=>EJ m i (Rg.mk t t)) ms s hs]
theorem UR (i:Int) (st:Nat) (ms:List (List (Int×Rg))) (s:Nat) (t:Int) (h1:ms.length=st) (h2:s<st):g2 i (ms.map some) (s:Int) t=some ((ms.modify s (fun m=>EJ m i (Rg.mk (Gg m i ((Rg.mk 0 0):Rg)).1.lo t))).map some):=by
  have hs:s<ms.length:=by omega
  unfold g2
  rw [AC _ s (by simpa using hs)]
  simp only [Option.bind_some,List.getElem_map]
  rw [Ry _ s _ (by simpa using hs)]
  simp only [Option.bind_some]
  rw [IE (fun m=>EJ m i (Rg.mk (Gg m i ((Rg.mk 0 0):Rg)).1.lo t)) ms s hs]
theorem Ks {α:Type} (x:Option α):(x.bind fun s1=>some (s1,true))=x.map fun s'=>(s',true):=by cases x <;> rfl
def Ci (st:Int) (n:Nat) (k:Int):Nat→List ((Bi×A5)×(Bi×A5))→List (Int×Rg)
  | _,[]=>[]
  | i,p::r=>match Eo st n p k with
    | some x=>((i:Int),x)::Ci st n k (i+1) r
    | none=>Ci st n k (i+1) r
theorem M0 (w:B3) (lo hi:List (Bi×A5)) (hl:w.route.legs.length≤20) (hlen:lo.length=hi.length) (h1:∀ p∈lo,EG w.route p) (h2:∀ p∈hi,EG w.route p) (N:Nat) (hN:60≤N) (hN2:N≤1000) (h20:lo.length≤20)
    (hA:∀ n,30≤n→n≤1000→∀ p∈lo.zip hi,UP ((w.route.legs.length:Int)+1) n p∧∀ k,Eo ((w.route.legs.length:Int)+1) n p k=Eo ((w.route.legs.length:Int)+1) 40 p k):∀ (n i:Nat)(ms:List (List (Int×Rg))),lo.length+30<n+i→n≤1000→i≤lo.length→ms.length=w.route.legs.length+1→(∀ m∈ms,∀ p∈m,p.1<(i:Int)) →
    Bm n w (lo.map Prod.fst,lo.map Prod.snd) (hi.map Prod.fst,hi.map Prod.snd) (ms.map some) (i:Int)=some (((List.range (w.route.legs.length+1)).map fun(k:Nat)=>(ms[k]?.getD [])++Ci ((w.route.legs.length:Int)+1) 40 k i ((lo.zip hi).drop i)).map some)
  | 0,i,ms,h,_,hi',_,_=>by omega
  | n+1,i,ms,h,hn,hi',hm,hkeys=>by
    rw [Bm]
    simp only []
    rw [Bu,List.length_map]
    by_cases hx:i<lo.length
    · have hxh:i<hi.length:=by omega
      have hz:i<(lo.zip hi).length:=by simp; omega
      have o1:=h1 _ (List.getElem_mem hx)
      have o2:=h2 _ (List.getElem_mem hxh)
      have hmem:(lo[i],hi[i])∈lo.zip hi:=by
        have:=List.getElem_mem hz
        rwa [List.getElem_zip] at this
      obtain⟨hAl,hSp⟩:=hA n (by omega) (by omega) _ hmem
      simp only [hx,decide_true,cond_true]
      rw [AC _ i (by simpa using hx),AC _ i (by simpa using hx),AC _ i (by simpa using hxh),AC _ i (by simpa using hxh)]
      simp only [Option.bind_some,List.getElem_map,C2]
      show((Bs n (fun s a b=>(g1 i s a b).bind fun s1=>some (s1,true)) _ _ _ _).bind _)=_
      rw [OP n _ (g1 i) (fun s a b=>Ks (g1 i s a b)) _ _ _ _ hl o1.q o1.len o1.t o1.tm0 o1.tm1 (by omega) (by omega) o1.s0 o1.s1]
      rw [Mb (g1 i) _ (w.route.legs.length+1) (UQ i _) _ _ hm (fun p hp=>by
          have:=Fq o1.t n _ _ p hp
          constructor <;> omega)]
      simp only [Option.bind_some]
      show((Bs n (fun s a b=>(g2 i s a b).bind fun s1=>some (s1,true)) _ _ _ _).bind _)=_
      rw [OP n _ (g2 i) (fun s a b=>Ks (g2 i s a b)) _ _ _ _ hl o2.q o2.len o2.t o2.tm0 o2.tm1 (by omega) (by omega) o2.s0 o2.s1]
      rw [Mb (g2 i) _ (w.route.legs.length+1) (UR i _) _ _ (by rw [G7]; exact hm) (fun p hp=>by
          have:=Fq o2.t n _ _ p hp
          constructor <;> omega)]
      simp only [Option.bind_some]
      rw [Cw i (by omega)]
      -- each stop's map
      have hget:∀ k:Nat,(Mz (Mz ms (fun t m=>EJ m (i:Int) (Rg.mk t t)) (Cd ((w.route.legs.length:Int)+1) lo[i].1.turned lo[i].2.turn lo[i].2.legs n lo[i].1.tm lo[i].1.stop)) (fun t m=>EJ m (i:Int) (Rg.mk (Gg m (i:Int) ((Rg.mk 0 0):Rg)).1.lo t)) (Cd ((w.route.legs.length:Int)+1) hi[i].1.turned hi[i].2.turn hi[i].2.legs n hi[i].1.tm hi[i].1.stop))[k]? = (ms[k]?).map fun m=>m++(match Eo ((w.route.legs.length:Int)+1) 40 (lo[i],hi[i]) k with | some x=>[((i:Int),x)] | none=>[]):=fun k=>by
        rw [Ma _ _ _ k (Ga o2.t n _ _) (fun p hp=>(Fq o2.t n _ _ p hp).2.1),Ma _ _ _ k (Ga o1.t n _ _) (fun p hp=>(Fq o1.t n _ _ p hp).2.1),← hSp]
        cases hmk:ms[k]? with
        | none=>rfl
        | some m =>
          have hk:∀ p∈m,p.1≠(i:Int):=fun p hp=>by
            have:=hkeys m (List.mem_of_getElem? hmk) p hp
            omega
          have hal:=hAl k
          simp only [] at hal
          simp only [Option.map_some,Eo]
          cases hlo:BC (Cd ((w.route.legs.length:Int)+1) lo[i].1.turned lo[i].2.turn lo[i].2.legs n lo[i].1.tm lo[i].1.stop) (k:Int) with
          | none =>
            rw [hal.1 hlo]
            simp
          | some a =>
            cases hhi:BC (Cd ((w.route.legs.length:Int)+1) hi[i].1.turned hi[i].2.turn hi[i].2.legs n hi[i].1.tm hi[i].1.stop) (k:Int) with
            | none=>rw [hal.2 hhi] at hlo; cases hlo
            | some b =>
              simp only [Qy _ hk,Qz _ _ hk,Gg,Nt _ hk]
      rw [M0 w lo hi hl hlen h1 h2 N hN hN2 h20 hA n (i+1) _ (by omega) (by omega) (by omega) (by rw [G7,G7]; exact hm) (fun m hm' p hp=>by
        obtain⟨k,hk⟩:=List.mem_iff_getElem?.1 hm'
        rw [hget k] at hk
        obtain⟨m0,h3,rfl⟩:=Option.map_eq_some_iff.1 hk
        rcases List.mem_append.1 hp with hp | hp
        · have:=hkeys m0 (List.mem_of_getElem? h3) p hp
          omega
        · split at hp
          · simp at hp; subst hp; simp only; omega
          · simp at hp)]
      congr 2
      apply List.map_congr_left
      intro k hk
      rw [List.mem_range] at hk
      rw [hget k,Az hz,List.getElem_zip]
      have hkm:k<ms.length:=by omega
      rw [List.getElem?_eq_getElem hkm]
      simp only [Option.map_some,Option.getD_some,Ci]
      cases Eo ((w.route.legs.length:Int)+1) 40 (lo[i],hi[i]) (k:Int) with
      | none=>simp
      | some x=>simp
    · have hxe:i=lo.length:=by omega
      have hd:(lo.zip hi).drop i=[]:=List.drop_eq_nil_of_le (by simp; omega)
      simp only [hx,decide_false,cond_false,hd,Ci,List.append_nil,Option.some.injEq]
      congr 1
      apply List.ext_getElem?
      intro k
      rw [List.getElem?_map]
      by_cases hk:k<w.route.legs.length+1
      · rw [List.getElem?_range hk,List.getElem?_eq_getElem (by omega)]
        simp
        rw [List.getElem?_eq_getElem (by omega)]
        rfl
      · rw [List.getElem?_eq_none (by omega),List.getElem?_eq_none (by simp; omega)]
        rfl
end Go.Proofs.Ytokchpjijlebiaa
namespace Go.Proofs.Ytokchpjijlebiaa
open Go Go.RowKit
def Ee (x:Rg) (m:Int):Bool:=decide (0≤x.lo∧x.lo≤x.hi∧x.hi≤m)
def Lb (r:Af) (b:Cy):Bool:=decide (0≤b.stop∧b.stop≤(r.legs.length:Int)) && Ee b.tm 2000
def G8 (r:Af) (s:A7):Bool:=decide (0≤s.stop∧s.stop≤(r.legs.length:Int)) && decide (0≤s.tm∧s.tm≤2000)
def PI (r:Af):Bool:=decide (r.legs.length % 2=1∧r.legs.length≤7) && Ee r.turn 300 && decide (1≤r.unit∧r.unit≤30) && decide (0≤r.gap∧r.gap≤2000) && decide (0≤r.fr∧r.fr≤r.to_∧r.to_≤2000) && r.legs.all (fun x=>Ee x 300) && r.buses.all (Lb r) && r.spares.all (G8 r)
def EQ (r:Af):Int:=if r.buses.length>4∨r.spares.length>2 then 3 else if PI r then 0 else 1
theorem HI (n:Nat) (x a b:Int):Gs n x a b=some (decide (a≤x∧x≤b)):=by
  unfold Gs
  by_cases h:a≤x <;> simp [h]
theorem Mc (n:Nat) (x a b:Int):Bv n x a b=some (decide (a≤x∧x≤b)):=by
  unfold Bv
  by_cases h:a≤x <;> simp [h]
theorem Je (n:Nat) (x:Rg) (m:Int):GS n x m=some (Ee x m):=by
  unfold GS Ee
  rw [HI]
  by_cases h:0≤x.lo∧x.lo≤x.hi
  · simp [h]
  · simp only [h,decide_false,Option.bind_some,cond_false,Option.some.injEq]
    symm; rw [decide_eq_false_iff_not]; omega
theorem Sg (n:Nat) (x:Rg) (m:Int):Cp n x m=some (Ee x m):=by
  unfold Cp Ee
  by_cases h:0≤x.lo <;> by_cases h2:x.lo≤x.hi <;> simp [h,h2]
theorem Q0 (n:Nat) (x:Rg):B0 n x=some (Ee x 300):=by
  unfold B0; rw [Sg]; rfl
theorem OQ (n:Nat) (x:Int):C1 n x=some (decide (0≤x∧x≤2000)):=by
  unfold C1; rw [Mc]; rfl
theorem Fs (n:Nat) (r:Af) (h:r.legs.length≤20):Fc n r=some ((r.legs.length:Int)+1):=by
  unfold Fc; rw [FF (by omega) (by omega)]
theorem M1 (r:Af) (hb:r.legs.length≤20):∀ (n i:Nat),r.legs.length<n+i→i≤r.legs.length→DN n r (i:Int)=some (if (r.legs.drop i).all (fun x=>Ee x 300) then Ex.go () else Ex.ret 1)
  | 0,i,h,hi=>by omega
  | n+1,i,h,hi=>by
    rw [DN,Bu]
    by_cases hx:i<r.legs.length
    · simp only [hx,decide_true,cond_true,AC _ _ hx,Option.bind_some,Je]
      rw [Az hx,List.all_cons]
      cases Ee r.legs[i] 300 with
      | true=>simp only [Bool.not_true,cond_false,Bool.true_and]; rw [Cw i (by omega),M1 r hb n (i+1) (by omega) (by omega)]
      | false=>rfl
    · have:i=r.legs.length:=by omega
      simp [this]
theorem M2 (r:Af) (hl:r.legs.length≤20) (hb:r.buses.length≤20):∀ (n i:Nat),r.buses.length<n+i→i≤r.buses.length→DO n r (i:Int)=some (if (r.buses.drop i).all (Lb r) then Ex.go () else Ex.ret 1)
  | 0,i,h,hi=>by omega
  | n+1,i,h,hi=>by
    rw [DO,Bu]
    by_cases hx:i<r.buses.length
    · simp only [hx,decide_true,cond_true,AC _ _ hx,Option.bind_some,Je,Fs n r hl,HI]
      rw [Az hx,List.all_cons,FF (x:=(r.legs.length:Int)+1-1) (by omega) (by omega),show(r.legs.length:Int)+1-1=r.legs.length by omega]
      unfold Lb
      by_cases h1:0≤(r.buses[i]).stop∧(r.buses[i]).stop≤(r.legs.length:Int)
      · simp only [h1,and_self,decide_true,Bool.not_true,cond_false,Bool.true_and]
        cases Ee (r.buses[i]).tm 2000 with
        | true =>
          simp only [Bool.not_true,cond_false,Bool.true_and]; rw [Cw i (by omega),M2 r hl hb n (i+1) (by omega) (by omega)]
          rfl
        | false=>rfl
      · simp only [h1,decide_false,Bool.not_false,cond_true,Bool.false_and]
        rfl
    · have:i=r.buses.length:=by omega
      simp [this]
theorem M3 (r:Af) (hl:r.legs.length≤20) (hb:r.spares.length≤20):∀ (n i:Nat),r.spares.length<n+i→i≤r.spares.length→DP n r (i:Int)=some (if (r.spares.drop i).all (G8 r) then Ex.go () else Ex.ret 1)
  | 0,i,h,hi=>by omega
  | n+1,i,h,hi=>by
    rw [DP,Bu]
    by_cases hx:i<r.spares.length
    · simp only [hx,decide_true,cond_true,AC _ _ hx,Option.bind_some,Fs n r hl,HI]
      rw [Az hx,List.all_cons,FF (x:=(r.legs.length:Int)+1-1) (by omega) (by omega),show(r.legs.length:Int)+1-1=r.legs.length by omega]
      unfold G8
      by_cases h1:0≤(r.spares[i]).stop∧(r.spares[i]).stop≤(r.legs.length:Int)
      · simp only [h1,and_self,decide_true,Bool.not_true,cond_false,Bool.true_and]
        by_cases h2:0≤(r.spares[i]).tm∧(r.spares[i]).tm≤2000
        · simp only [h2,and_self,decide_true,Bool.not_true,cond_false,Bool.true_and]; rw [Cw i (by omega),M3 r hl hb n (i+1) (by omega) (by omega)]
          rfl
        · simp only [h2,decide_false,Bool.not_false,cond_true,Bool.false_and]
          rfl
      · simp only [h1,decide_false,Bool.not_false,cond_true,Bool.false_and]
        rfl
    · have:i=r.spares.length:=by omega
      simp [this]
theorem Uv (k:Nat) (h:k≤1000):Int.tmod ((k:Nat):Int) 2=((k % 2:Nat):Int):=rfl
theorem PJ (n:Nat) (r:Af) (hn:50≤n) (h1:r.legs.length≤20) (h2:r.buses.length≤20) (h3:r.spares.length≤20):GH n r=some (EQ r):=by
  unfold GH EQ
  have e1:=M1 r h1 n 0 (by omega) (by omega)
  have e2:=M2 r h1 h2 n 0 (by omega) (by omega)
  have e3:=M3 r h1 h3 n 0 (by omega) (by omega)
  simp only [Int.natCast_zero,List.drop_zero] at e1 e2 e3
  simp only [Je,HI,e1,e2,e3,Option.bind_some,Uv _ (show r.legs.length≤1000 by omega)]
  by_cases a1:r.buses.length>4
  · have a1':decide (((r.buses.length:Nat):Int)>4)=true:=by simp; omega
    simp only [a1',a1,cond_true,Option.bind_some,true_or,if_true]
  have a1':decide (((r.buses.length:Nat):Int)>4)=false:=by simp; omega
  by_cases a2:r.spares.length>2
  · have a2':decide (((r.spares.length:Nat):Int)>2)=true:=by simp; omega
    simp only [a1',a2',a2,cond_true,cond_false,Option.bind_some,or_true,if_true]
  have a2':decide (((r.spares.length:Nat):Int)>2)=false:=by simp; omega
  simp only [a1',a2',cond_false,Option.bind_some,a1,a2,or_self,if_false]
  unfold PI
  by_cases b1 : ¬ (r.legs.length % 2=1)
  · have:r.legs.length % 2=0:=by omega
    simp [this]
  replace b1:=Decidable.not_not.1 b1
  have b1':(((r.legs.length % 2:Nat):Int) == 0)=false:=by rw [b1]; rfl
  by_cases b2 : ¬ (r.legs.length≤7)
  · have b2':decide (((r.legs.length:Nat):Int)>7)=true:=by simp; omega
    simp only [b1',b2',b2,and_false,decide_false,Bool.false_and,cond_false,cond_true,Option.bind_some]
    rfl
  replace b2:=Decidable.not_not.1 b2
  have b2':decide (((r.legs.length:Nat):Int)>7)=false:=by simp; omega
  simp only [b1',b2',cond_false,b1,b2,and_self,decide_true,Bool.true_and]
  cases Ee r.turn 300
  · simp
  simp only [Bool.not_true,cond_false,Bool.true_and]
  by_cases b3 : ¬ (1≤r.unit∧r.unit≤30)
  · simp [b3]
  replace b3:=Decidable.not_not.1 b3
  simp only [b3,and_self,decide_true,Bool.not_true,cond_false,Option.bind_some,Bool.true_and]
  by_cases b4 : ¬ (0≤r.gap∧r.gap≤2000)
  · simp [b4]
  replace b4:=Decidable.not_not.1 b4
  simp only [b4,and_self,decide_true,Bool.not_true,cond_false,Option.bind_some,Bool.true_and]
  by_cases b5 : ¬ (0≤r.fr∧r.fr≤r.to_)
  · simp only [b5,decide_false,Bool.not_false,cond_true,Option.bind_some]
    have : ¬ (0≤r.fr∧r.fr≤r.to_∧r.to_≤2000):=fun h=>b5 ⟨h.1,h.2.1⟩
    simp [this]
  replace b5:=Decidable.not_not.1 b5
  simp only [b5,and_self,decide_true,Bool.not_true,cond_false,Option.bind_some]
  by_cases b6 : ¬ (r.to_≤2000)
  · have : ¬ (0≤r.fr∧r.fr≤r.to_∧r.to_≤2000):=fun h=>b6 h.2.2
    have b6':decide (r.to_>2000)=true:=by simp; omega
    simp only [b6,b6',and_false,decide_false,Bool.false_and,cond_true,Option.bind_some]
    rfl
  replace b6:=Decidable.not_not.1 b6
  have b6':decide (r.to_>2000)=false:=by simp; omega
  simp only [b6',b6,b5,and_self,decide_true,cond_false,Bool.true_and]
  cases r.legs.all (fun x=>Ee x 300)
  · rfl
  cases r.buses.all (Lb r)
  · rfl
  cases r.spares.all (G8 r)
  · rfl
  rfl
theorem IF (l:List Rg) (F:Rg→Option Bool) (p:Rg→Bool) (hF:∀ x,F x=some (p x)) (hb:l.length≤20):∀ (n i:Nat),l.length<n+i→i≤l.length→∃ e,As n l F (i:Int)=some e∧((∃ k:Nat,e=Ex.ret (k:Int))∧(l.drop i).any p=true∨e=Ex.go ()∧(l.drop i).any p=false)
  | 0,i,h,hi=>by omega
  | n+1,i,h,hi=>by
    rw [As,Bu]
    by_cases hx:i<l.length
    · simp only [hx,decide_true,cond_true,AC _ _ hx,Option.bind_some,hF]
      rw [Az hx,List.any_cons]
      cases p l[i] with
      | true=>exact⟨_,rfl,.inl ⟨⟨i,rfl⟩,rfl⟩⟩
      | false=>simp only [cond_false,Bool.false_or]; rw [Cw i (by omega)]; exact IF l F p hF hb n (i+1) (by omega) (by omega)
    · have:i=l.length:=by omega
      exact⟨Ex.go (),by simp [this],.inr ⟨rfl,by simp [this]⟩⟩
theorem SM (n:Nat) (hn:50≤n) (l:List Rg) (F:Rg→Option Bool) (p:Rg→Bool) (hF:∀ x,F x=some (p x)) (hb:l.length≤20):BJ n l F=some (l.all p):=by
  unfold BJ A9 AE
  obtain⟨e,he,h⟩:=IF l (fun y0=>AL n y0 F) (fun x=>!p x) (fun x=>by simp [AL,hF]) hb n 0 (by omega) (by omega)
  simp only [Int.natCast_zero,List.drop_zero] at he h
  rw [he]
  have hall:l.all p=!(l.any fun x=>!p x):=by rw [List.not_any_eq_all_not]; simp
  rcases h with⟨⟨k,rfl⟩,h⟩ | ⟨rfl,h⟩
  · rw [hall,h]
    simp [Ex.bind]
  · rw [hall,h]
    simp [Ex.bind]
theorem HJ (l:List Cy) (F:Cy→Option Bool) (p:Cy→Bool) (hF:∀ x,F x=some (p x)) (hb:l.length≤20):∀ (n i:Nat),l.length<n+i→i≤l.length→∃ e,Aw n l F (i:Int)=some e∧((∃ k:Nat,e=Ex.ret (k:Int))∧(l.drop i).any p=true∨e=Ex.go ()∧(l.drop i).any p=false)
  | 0,i,h,hi=>by omega
  | n+1,i,h,hi=>by
    rw [Aw,Bu]
    by_cases hx:i<l.length
    · simp only [hx,decide_true,cond_true,AC _ _ hx,Option.bind_some,hF]
      rw [Az hx,List.any_cons]
      cases p l[i] with
      | true=>exact⟨_,rfl,.inl ⟨⟨i,rfl⟩,rfl⟩⟩
      | false=>simp only [cond_false,Bool.false_or]; rw [Cw i (by omega)]; exact HJ l F p hF hb n (i+1) (by omega) (by omega)
    · have:i=l.length:=by omega
      exact⟨Ex.go (),by simp [this],.inr ⟨rfl,by simp [this]⟩⟩
theorem Rz (n:Nat) (hn:50≤n) (l:List Cy) (F:Cy→Option Bool) (p:Cy→Bool) (hF:∀ x,F x=some (p x)) (hb:l.length≤20):BW n l F=some (l.all p):=by
  unfold BW AH AV
  obtain⟨e,he,h⟩:=HJ l (fun y0=>AY n y0 F) (fun x=>!p x) (fun x=>by simp [AY,hF]) hb n 0 (by omega) (by omega)
  simp only [Int.natCast_zero,List.drop_zero] at he h
  rw [he]
  have hall:l.all p=!(l.any fun x=>!p x):=by rw [List.not_any_eq_all_not]; simp
  rcases h with⟨⟨k,rfl⟩,h⟩ | ⟨rfl,h⟩
  · rw [hall,h]
    simp [Ex.bind]
  · rw [hall,h]
    simp [Ex.bind]
theorem GM (l:List A7) (F:A7→Option Bool) (p:A7→Bool) (hF:∀ x,F x=some (p x)) (hb:l.length≤20):∀ (n i:Nat),l.length<n+i→i≤l.length→∃ e,At n l F (i:Int)=some e∧((∃ k:Nat,e=Ex.ret (k:Int))∧(l.drop i).any p=true∨e=Ex.go ()∧(l.drop i).any p=false)
  | 0,i,h,hi=>by omega
  | n+1,i,h,hi=>by
    rw [At,Bu]
    by_cases hx:i<l.length
    · simp only [hx,decide_true,cond_true,AC _ _ hx,Option.bind_some,hF]
      rw [Az hx,List.any_cons]
      cases p l[i] with
      | true=>exact⟨_,rfl,.inl ⟨⟨i,rfl⟩,rfl⟩⟩
      | false=>simp only [cond_false,Bool.false_or]; rw [Cw i (by omega)]; exact GM l F p hF hb n (i+1) (by omega) (by omega)
    · have:i=l.length:=by omega
      exact⟨Ex.go (),by simp [this],.inr ⟨rfl,by simp [this]⟩⟩
theorem PK (n:Nat) (hn:50≤n) (l:List A7) (F:A7→Option Bool) (p:A7→Bool) (hF:∀ x,F x=some (p x)) (hb:l.length≤20):BK n l F=some (l.all p):=by
  unfold BK AA AF
  obtain⟨e,he,h⟩:=GM l (fun y0=>AM n y0 F) (fun x=>!p x) (fun x=>by simp [AM,hF]) hb n 0 (by omega) (by omega)
  simp only [Int.natCast_zero,List.drop_zero] at he h
  rw [he]
  have hall:l.all p=!(l.any fun x=>!p x):=by rw [List.not_any_eq_all_not]; simp
  rcases h with⟨⟨k,rfl⟩,h⟩ | ⟨rfl,h⟩
  · rw [hall,h]
    simp [Ex.bind]
  · rw [hall,h]
    simp [Ex.bind]
theorem R0 (n:Nat) (b:Cy) (r:Af) (h:r.legs.length≤20):B4 n b r=some (Lb r b):=by
  unfold B4 Lb
  rw [Gn n r _ h,Sg]
  by_cases h1:0≤b.stop∧b.stop≤(r.legs.length:Int)
  · have:0≤b.stop∧b.stop<(r.legs.length:Int)+1:=⟨h1.1,by omega⟩
    simp [h1,this]
  · have : ¬ (0≤b.stop∧b.stop<(r.legs.length:Int)+1):=fun h=>h1 ⟨h.1,by omega⟩
    simp only [this,h1,decide_false,Option.bind_some,cond_false,Bool.false_and]
theorem R1 (n:Nat) (b:A7) (r:Af) (h:r.legs.length≤20):B5 n b r=some (G8 r b):=by
  unfold B5 G8
  rw [Gn n r _ h,OQ]
  by_cases h1:0≤b.stop∧b.stop≤(r.legs.length:Int)
  · have:0≤b.stop∧b.stop<(r.legs.length:Int)+1:=⟨h1.1,by omega⟩
    simp [h1,this]
  · have : ¬ (0≤b.stop∧b.stop<(r.legs.length:Int)+1):=fun h=>h1 ⟨h.1,by omega⟩
    simp only [this,h1,decide_false,Option.bind_some,cond_false,Bool.false_and]
theorem JY (n:Nat) (r:Af) (h:r.legs.length≤20):BE n r=some ((((r.legs.length+1) / 2:Nat):Int)):=by
  unfold BE
  rw [E7 n r h]
  simp only [Option.bind_some,Option.some.injEq]
  rw [show((r.legs.length:Int)+1)=((r.legs.length+1:Nat):Int) by omega,show Int.tdiv ((r.legs.length+1:Nat):Int) 2=(((r.legs.length+1) / 2:Nat):Int) from rfl,FF (by omega) (by omega)]
theorem Lc (n:Nat) (r:Af) (hn:50≤n) (h1:r.legs.length≤20) (h2:r.buses.length≤20) (h3:r.spares.length≤20):BM n r=some (EQ r):=by
  unfold BM EQ
  rw [SM n hn r.legs _ (fun x=>Ee x 300) (fun x=>Q0 n x) h1,Rz n hn r.buses _ (Lb r) (fun x=>R0 n x r h1) h2,PK n hn r.spares _ (G8 r) (fun x=>R1 n x r h1) h3]
  simp only [Q0,Mc,OQ,JY n r h1,Option.bind_some,Uv _ (show r.legs.length≤1000 by omega)]
  by_cases a1:r.buses.length>4
  · have a1':decide (((r.buses.length:Nat):Int)>4)=true:=by simp; omega
    simp only [a1',a1,cond_true,Option.bind_some,true_or,if_true]
  have a1':decide (((r.buses.length:Nat):Int)>4)=false:=by simp; omega
  by_cases a2:r.spares.length>2
  · have a2':decide (((r.spares.length:Nat):Int)>2)=true:=by simp; omega
    simp only [a1',a2',a2,cond_true,cond_false,Option.bind_some,or_true,if_true]
  have a2':decide (((r.spares.length:Nat):Int)>2)=false:=by simp; omega
  simp only [a1',a2',cond_false,Option.bind_some,a1,a2,or_self,if_false]
  unfold PI
  by_cases b1 : ¬ (r.legs.length % 2=1)
  · have:r.legs.length % 2=0:=by omega
    simp [this]
  replace b1:=Decidable.not_not.1 b1
  have b1':(((r.legs.length % 2:Nat):Int) == 0)=false:=by rw [b1]; rfl
  by_cases b2 : ¬ (r.legs.length≤7)
  · have b2':decide ((((r.legs.length+1) / 2:Nat):Int)>4)=true:=by simp; omega
    simp only [b1',b2',b2,and_false,decide_false,Bool.false_and,cond_false,cond_true,Option.bind_some]
    rfl
  replace b2:=Decidable.not_not.1 b2
  have b2':decide ((((r.legs.length+1) / 2:Nat):Int)>4)=false:=by simp; omega
  simp only [b1',b2',cond_false,b1,b2,and_self,decide_true,Bool.true_and]
  cases r.legs.all (fun x=>Ee x 300)
  · simp
  cases Ee r.turn 300
  · simp
  cases r.buses.all (Lb r)
  · simp
  cases r.spares.all (G8 r)
  · simp
  simp only [Bool.not_true,cond_false,Bool.true_and,Bool.and_true,Option.bind_some]
  by_cases b3 : ¬ (1≤r.unit∧r.unit≤30)
  · simp [b3]
  replace b3:=Decidable.not_not.1 b3
  by_cases b4 : ¬ (0≤r.gap∧r.gap≤2000)
  · simp [b3,b4]
  replace b4:=Decidable.not_not.1 b4
  simp only [b3,b4,and_self,decide_true,Bool.not_true,cond_false,Option.bind_some,Bool.true_and]
  by_cases b5 : ¬ (0≤r.fr∧r.fr≤2000)
  · have : ¬ (0≤r.fr∧r.fr≤r.to_∧r.to_≤2000):=fun h=>b5 ⟨h.1,by omega⟩
    simp [b5,this]
  replace b5:=Decidable.not_not.1 b5
  by_cases b6 : ¬ (0≤r.to_∧r.to_≤2000)
  · have : ¬ (0≤r.fr∧r.fr≤r.to_∧r.to_≤2000):=fun h=>b6 ⟨by omega,h.2.2⟩
    simp [b5,b6]; omega
  replace b6:=Decidable.not_not.1 b6
  simp only [b5,b6,and_self,decide_true,Bool.not_true,cond_false,Option.bind_some]
  by_cases b7:r.fr>r.to_
  · have : ¬ (0≤r.fr∧r.fr≤r.to_∧r.to_≤2000):=fun h=>by omega
    have b7':decide (r.fr>r.to_)=true:=by simp; omega
    simp only [b7',cond_true]
    simp; omega
  · have b7':decide (r.fr>r.to_)=false:=by simp; omega
    simp only [b7',cond_false]
    simp; omega
structure Bg (r:Af):Prop where
  nb:r.buses.length≤4
  ns:r.spares.length≤2
  odd:r.legs.length % 2=1
  nl:r.legs.length≤7
  turn:0≤r.turn.lo∧r.turn.lo≤r.turn.hi∧r.turn.hi≤300
  unit:1≤r.unit∧r.unit≤30
  gap:0≤r.gap∧r.gap≤2000
  looked:0≤r.fr∧r.fr≤r.to_∧r.to_≤2000
  legs:∀ x∈r.legs,0≤x.lo∧x.lo≤x.hi∧x.hi≤300
  buses:∀ b∈r.buses,0≤b.stop∧b.stop≤(r.legs.length:Int)∧0≤b.tm.lo∧b.tm.lo≤b.tm.hi∧b.tm.hi≤2000
  spares:∀ s∈r.spares,0≤s.stop∧s.stop≤(r.legs.length:Int)∧0≤s.tm∧s.tm≤2000
theorem Nu {r:Af} (h:EQ r=0):Bg r:=by
  unfold EQ at h
  split at h
  · cases h
  rename_i h1
  split at h
  · rename_i h2
    simp only [PI,Ee,Bool.and_eq_true,decide_eq_true_eq,List.all_eq_true] at h2
    obtain⟨⟨⟨⟨⟨⟨⟨q1,q2⟩,q3⟩,q4⟩,q5⟩,q6⟩,q7⟩,q8⟩:=h2
    refine⟨by omega,by omega,q1.1,q1.2,q2,q3,q4,q5,q6,fun b hb=>?_,fun s hs=>?_⟩
    · have:=q7 b hb
      simp only [Lb,Ee,Bool.and_eq_true,decide_eq_true_eq] at this
      exact⟨this.1.1,this.1.2,this.2⟩
    · have:=q8 s hs
      simp only [G8,Bool.and_eq_true,decide_eq_true_eq] at this
      exact⟨this.1.1,this.1.2,this.2⟩
  · cases h
end Go.Proofs.Ytokchpjijlebiaa
namespace Go.Proofs.Ytokchpjijlebiaa
open Go Go.RowKit
def Kt (r:Af) (a:Am) (i:Nat):Bool:=decide (0≤a.holds[i]!∧a.holds[i]!≤2) && (decide (a.turns[i]! = -1) || decide ((r.buses[i]!).stop≤a.turns[i]!∧a.turns[i]!≤(((r.legs.length+1) / 2:Nat):Int)-2))
def Eh (r:Af) (a:Am):Bool:=decide (a.holds.length=r.buses.length∧a.turns.length=r.buses.length∧a.spares.length=r.spares.length) && (List.range r.buses.length).all (Kt r a)
theorem Hy (n:Nat) (r:Af) (h:r.legs.length≤20):FM n r=some ((((r.legs.length+1) / 2:Nat):Int)):=by
  unfold FM
  rw [FF (x:=(r.legs.length:Int)+1) (by omega) (by omega),show((r.legs.length:Int)+1)=((r.legs.length+1:Nat):Int) by omega,show Int.tdiv ((r.legs.length+1:Nat):Int) 2=(((r.legs.length+1) / 2:Nat):Int) from rfl,FF (by omega) (by omega)]
theorem Ti (n:Nat) (r:Af) (b:Cy) (t:Int) (h:r.legs.length≤20):Cj n r b t=some (decide (t=-1) || decide (b.stop≤t∧t≤(((r.legs.length+1) / 2:Nat):Int)-2)):=by
  unfold Cj
  rw [JY n r h]
  simp only [Option.bind_some,Mc]
  rw [FF (by omega) (by omega)]
  by_cases ht:t=-1
  · simp [ht]
  · rw [beq_eq_false_iff_ne.2 ht]
    simp [ht]
def Ca (m to_:Int) (l:List Rg):Int:=l.foldl (fun e p=>if p.lo>m then min e p.hi else e) to_
def E8 (fr to_:Int) (l:List Rg):List Int:=fr::(l.filter fun p=>decide (fr≤p.lo) && decide (p.lo≤to_)).map Rg.lo
def WR (fr to_:Int) (l:List Rg):Int:=(E8 fr to_ l).foldl (fun b m=>max b (Ca m to_ l-m)) 0
theorem Jf (m:Int):∀ (l:List Rg)(to_:Int),(∀ p∈l,p.lo≤p.hi)→m≤to_→m≤Ca m to_ l∧Ca m to_ l≤to_
  | [],to_,_,h=>⟨h,Int.le_refl _⟩
  | p::r,to_,hp,h=>by
    have h1:=hp p (by simp)
    show m≤Ca m (if p.lo>m then min to_ p.hi else to_) r∧Ca m (if p.lo>m then min to_ p.hi else to_) r≤to_
    split
    · have:=Jf m r (min to_ p.hi) (fun q hq=>hp q (List.mem_cons_of_mem _ hq)) (by omega)
      omega
    · exact Jf m r to_ (fun q hq=>hp q (List.mem_cons_of_mem _ hq)) h
theorem Nv (m:Int):∀ (l:List (Int×Rg))(to_:Int),A4 m to_ l=Ca m to_ (l.map Prod.snd)
  | [],_=>rfl
  | p::r,to_=>Nv m r _
theorem M4 {α β:Type} {f g:β→α→β}:∀ (l:List α)(b:β),(∀ b x,x∈l→f b x=g b x)→l.foldl f b=l.foldl g b
  | [],_,_=>rfl
  | x::r,b,h=>by
    rw [List.foldl_cons,List.foldl_cons,h b x (by simp)]
    exact M4 r _ fun b y hy=>h b y (List.mem_cons_of_mem _ hy)
theorem Hk {fr to_ m:Int} {l:List Rg} (h:fr≤to_) (hm:m∈E8 fr to_ l):fr≤m∧m≤to_:=by
  rcases List.mem_cons.1 hm with rfl | hm
  · exact⟨Int.le_refl _,h⟩
  · obtain⟨p,hp,rfl⟩:=List.mem_map.1 hm
    have:=(List.mem_filter.1 hp).2
    simpa using this
theorem OR (n:Nat) (r:Af) (l:List (Int×Rg)) (hn:60≤n) (hl:l.length≤20) (hp:∀ p∈l.map Prod.snd,p.lo≤p.hi) (h0:0≤r.fr) (h1:r.fr≤r.to_) (h2:r.to_≤2000):BF n r (EY.mk l)=some (WR r.fr r.to_ (l.map Prod.snd)):=by
  unfold BF WR
  rw [if_pos ⟨by simp only; omega,by simp only; omega⟩]
  have hM:Ey r l=E8 r.fr r.to_ (l.map Prod.snd):=by
    unfold Ey E8
    rw [List.filter_map,List.map_map]
    rfl
  simp only []
  rw [hM]
  congr 1
  refine M4 _ _ fun b m hm=>?_
  have q:=Hk h1 hm
  have:=Jf m (l.map Prod.snd) r.to_ hp q.2
  rw [Nv,FF (by omega) (by omega)]
theorem M5 (w:B3) (sp:List (List (Int×Rg))) (hs:sp.length≤50) (hl:∀ l∈sp,l.length≤20∧∀ p∈l.map Prod.snd,p.lo≤p.hi) (h0:0≤w.route.fr) (h1:w.route.fr≤w.route.to_) (h2:w.route.to_≤2000):∀ (n i:Nat)(acc:List Int),sp.length+60<n+i→i≤sp.length→acc.length=i →
    Bn n w (sp.map EY.mk) acc (i:Int)=some (acc++(sp.drop i).map fun l=>WR w.route.fr w.route.to_ (l.map Prod.snd))
  | 0,i,acc,h,hi,_=>by omega
  | n+1,i,acc,h,hi,ha=>by
    rw [Bn,Bu,List.length_map]
    by_cases hx:i<sp.length
    · simp only [hx,decide_true,cond_true]
      rw [AC _ i (by simpa using hx)]
      simp only [Option.bind_some,List.getElem_map]
      have:=hl _ (List.getElem_mem hx)
      rw [OR n w.route _ (by omega) this.1 this.2 h0 h1 h2]
      simp only [Option.bind_some]
      rw [C8 _ _ (by simp; omega)]
      simp only [Option.bind_some]
      rw [Cw i (by omega),M5 w sp hs hl h0 h1 h2 n (i+1) _ (by omega) (by omega) (by simp; omega),Az hx,List.append_assoc]
      rfl
    · have:i=sp.length:=by omega
      simp [this]
end Go.Proofs.Ytokchpjijlebiaa
namespace Go.Proofs.Ytokchpjijlebiaa
open Go Go.RowKit
structure CZ (r:Af) (a:Am):Prop where
  holds:a.holds.length=r.buses.length
  turns:a.turns.length=r.buses.length
  spares:a.spares.length=r.spares.length
  hold:∀ i,i<r.buses.length→0≤a.holds[i]!∧a.holds[i]!≤2
  turn:∀ i,i<r.buses.length→a.turns[i]! = -1∨(r.buses[i]!).stop≤a.turns[i]!∧a.turns[i]!≤(((r.legs.length+1) / 2:Nat):Int)-2
theorem E9 {r:Af} {a:Am} (h:Eh r a=true):CZ r a:=by
  simp only [Eh,Bool.and_eq_true,decide_eq_true_eq,List.all_eq_true,List.mem_range] at h
  obtain⟨⟨h1,h2,h3⟩,h4⟩:=h
  refine⟨h1,h2,h3,fun i hi=>?_,fun i hi=>?_⟩ <;>
  · have:=h4 i hi
    simp only [Kt,Bool.and_eq_true,Bool.or_eq_true,decide_eq_true_eq] at this
    first | exact this.1 | exact this.2
structure DH (f:Rg→Int):Prop where
  le:∀ x:Rg,x.lo≤x.hi→x.lo≤f x∧f x≤x.hi
theorem DH.low:DH Rg.lo:=⟨fun _ h=>⟨Int.le_refl _,h⟩⟩
theorem DH.high:DH Rg.hi:=⟨fun _ h=>⟨h,Int.le_refl _⟩⟩
def En (r:Af) (a:Am) (f:Rg→Int) (i:Nat):Bi×A5:=(⟨(r.buses[i]!).stop,f (r.buses[i]!).tm+a.holds[i]! * r.unit,a.turns[i]!⟩,⟨r.legs.map f,f r.turn⟩)
def IG (r:Af) (f:Rg→Int) (j:Nat):Bi×A5:=(⟨(r.spares[j]!).stop,(r.spares[j]!).tm,-1⟩,⟨r.legs.map f,0⟩)
theorem Q1 {α β:Type} [Inhabited α] [Inhabited β] (g:α→β) (l:List α) (i:Nat) (h:i<l.length):(l.map g)[i]! = g l[i]!:=by
  rw [Bp _ _ (by simpa using h),Bp _ _ h,List.getElem_map]
theorem Jg {β:Type} [Inhabited β] (x:β) (n i:Nat) (h:i<n):(List.replicate n x)[i]! = x:=by
  rw [Bp _ _ (by simpa using h),List.getElem_replicate]
theorem HK {α β:Type} {f g:α→Option β}:∀ {l:List α},(∀ x∈l,f x=g x)→l.filterMap f=l.filterMap g
  | [],_=>rfl
  | x::r,h=>by
    rw [List.filterMap_cons,List.filterMap_cons,h x (by simp),HK fun y hy=>h y (List.mem_cons_of_mem _ hy)]
theorem FK (r:Af) (a:Am) (f:Rg→Int):Cz r a (D6 r f)=(List.range r.buses.length).map (En r a f)++(List.range r.spares.length).filterMap fun j=>if a.spares[j]! then some (IG r f j) else none:=by
  unfold Cz
  congr 1
  · refine List.map_congr_left fun i hi=>?_
    rw [List.mem_range] at hi
    unfold BP En D6
    simp only []
    rw [Q1 _ _ _ hi,Q1 _ _ _ hi,Jg _ _ _ (by omega)]
  · refine HK fun j hj=>?_
    rw [List.mem_range] at hj
    unfold GL IG D6
    simp only []
    rw [Jg _ _ _ (by omega)]
theorem Nw {r:Af} {a:Am} {f:Rg→Int} (hf:DH f) (V:Bg r) (A:CZ r a):Kr r a (D6 r f):=by
  refine⟨by have:=V.nb; omega,by have:=V.ns; omega,A.holds,A.turns,A.spares,by simp [D6],by simp [D6],by simp [D6],fun x hx=>?_,V.unit,fun x hx=>?_⟩
  · obtain⟨i,hi,rfl⟩:=List.mem_iff_getElem.1 hx
    have:=A.hold i (by rw [← A.holds]; exact hi)
    rwa [Bp _ _ hi] at this
  · simp only [D6] at hx
    obtain⟨b,hb,rfl⟩:=List.mem_map.1 hx
    have:=V.buses b hb
    have:=hf.le b.tm (by omega)
    omega
theorem Nx {r:Af} {f:Rg→Int} (hf:DH f) (V:Bg r):(∀ d∈r.legs.map f,0≤d∧d≤300)∧0≤f r.turn∧f r.turn≤300:=by
  refine⟨fun d hd=>?_,?_⟩
  · obtain⟨x,hx,rfl⟩:=List.mem_map.1 hd
    have:=V.legs x hx
    have:=hf.le x (by omega)
    omega
  · have:=V.turn
    have:=hf.le r.turn (by omega)
    omega
theorem Ld {r:Af} {a:Am} {f:Rg→Int} (hf:DH f) (V:Bg r) (A:CZ r a) (i:Nat) (hi:i<r.buses.length):EG r (En r a f i):=by
  have hb:=V.buses _ (List.getElem_mem hi)
  have h1:=A.hold i hi
  have h2:=A.turn i hi
  have h3:=JX h1.1 h1.2 V.unit.1 V.unit.2
  obtain⟨s1,s2,s3⟩:=Nx hf V
  have:=V.nl
  rw [Bp _ _ hi] at h2
  have h4:=hf.le (r.buses[i]).tm (by omega)
  refine⟨⟨s2,s3,by simp [En]; omega,s1⟩,by simp [En],?_,?_,?_,?_,?_⟩ <;> simp only [En,Bp _ _ hi] <;> omega
theorem Ny {r:Af} {f:Rg→Int} (hf:DH f) (V:Bg r) (j:Nat) (hj:j<r.spares.length):EG r (IG r f j):=by
  have hb:=V.spares _ (List.getElem_mem hj)
  obtain⟨s1,_,_⟩:=Nx hf V
  have:=V.nl
  refine⟨⟨Int.le_refl _,by simp [IG],by simp [IG]; omega,s1⟩,by simp [IG],?_,?_,?_,?_,?_⟩ <;> simp only [IG,Bp _ _ hj] <;> omega
theorem Le {r:Af} {a:Am} {f:Rg→Int} (hf:DH f) (V:Bg r) (A:CZ r a):∀ p∈Cz r a (D6 r f),EG r p:=by
  rw [FK]
  intro p hp
  rcases List.mem_append.1 hp with hp | hp
  · obtain⟨i,hi,rfl⟩:=List.mem_map.1 hp
    exact Ld hf V A i (by simpa using hi)
  · obtain⟨j,hj,h⟩:=List.mem_filterMap.1 hp
    split at h
    · cases h; exact Ny hf V j (by simpa using hj)
    · cases h
def G0 (r:Af) (a:Am):List ((Bi×A5)×(Bi×A5)):=(List.range r.buses.length).map (fun i=>(En r a Rg.lo i,En r a Rg.hi i))++(List.range r.spares.length).filterMap fun j=>if a.spares[j]! then some (IG r Rg.lo j,IG r Rg.hi j) else none
theorem Hz {α β γ:Type} (c:α→Bool) (f:α→β) (g:α→γ):∀ l:List α,(l.filterMap fun j=>if c j then some (f j) else none).zip (l.filterMap fun j=>if c j then some (g j) else none)=l.filterMap fun j=>if c j then some (f j,g j) else none
  | []=>rfl
  | x::r=>by
    simp only [List.filterMap_cons]
    cases c x with
    | true=>simp only [if_true,List.zip_cons_cons,Hz c f g r]
    | false=>simp only [Bool.false_eq_true,if_false,Hz c f g r]
theorem H0 {α β γ:Type} (c:α→Bool) (f:α→β) (g:α→γ):∀ l:List α,(l.filterMap fun j=>if c j then some (f j) else none).length=(l.filterMap fun j=>if c j then some (g j) else none).length
  | []=>rfl
  | x::r=>by
    simp only [List.filterMap_cons]
    cases c x with
    | true=>simp only [if_true,List.length_cons,H0 c f g r]
    | false=>simp only [Bool.false_eq_true,if_false,H0 c f g r]
theorem JZ (r:Af) (a:Am):(Cz r a (D6 r Rg.lo)).zip (Cz r a (D6 r Rg.hi))=G0 r a:=by
  rw [FK,FK,List.zip_append (by simp),G0,Hz,List.zip_map']
theorem SN (r:Af) (a:Am):(Cz r a (D6 r Rg.lo)).length=(Cz r a (D6 r Rg.hi)).length:=by
  rw [FK,FK,List.length_append,List.length_append,H0 _ (IG r Rg.lo) (IG r Rg.hi)]
  simp
theorem G9 (r:Af) (a:Am) (f:Rg→Int):(Cz r a (D6 r f)).length≤r.buses.length+r.spares.length:=by
  rw [FK,List.length_append,List.length_map,List.length_range]
  have:=List.length_filterMap_le (fun j=>if a.spares[j]! then some (IG r f j) else none) (List.range r.spares.length)
  rw [List.length_range] at this
  omega
theorem GN {st turned turn:Int} {legs:List Int} (ht:2*turned+1<st):∀ (n m:Nat)(tm s:Int),st-s<n→st-s<m→Cd st turned turn legs n tm s=Cd st turned turn legs m tm s
  | 0,m,tm,s,h1,h2=>by
    cases m with
    | zero=>rfl
    | succ m=>rw [Cd,Cd,if_neg (by omega)]
  | n+1,0,tm,s,h1,h2=>by rw [Cd,Cd,if_neg (by omega)]
  | n+1,m+1,tm,s,h1,h2=>by
    rw [Cd,Cd]
    by_cases hc:0≤s∧s<st
    · simp only [hc,and_self,if_true]
      congr 1
      by_cases hs:s=turned
      · simp only [hs,if_true]
        exact GN ht n m _ _ (by omega) (by omega)
      · simp only [hs,if_false]
        cases legs[s.toNat]? with
        | none=>rfl
        | some d=>exact GN ht n m _ _ (by omega) (by omega)
    · simp only [hc,if_false]
theorem Q2 {r:Af} {p:(Bi×A5)×(Bi×A5)} (hl:r.legs.length≤20) (h1:EG r p.1) (h2:EG r p.2) {n:Nat} (hn:30≤n) (k:Int):Eo ((r.legs.length:Int)+1) n p k=Eo ((r.legs.length:Int)+1) 40 p k:=by
  have a1:=h1.s0
  have a2:=h2.s0
  unfold Eo
  rw [GN h1.t n 40 _ _ (by omega) (by omega),GN h2.t n 40 _ _ (by omega) (by omega)]
theorem OS {r:Af} {a:Am} (V:Bg r) {p:(Bi×A5)×(Bi×A5)} (hp:p∈G0 r a) (n:Nat) (k:Int) (A:CZ r a) :
    (BC (Cd ((r.legs.length:Int)+1) p.1.1.turned p.1.2.turn p.1.2.legs n p.1.1.tm p.1.1.stop) k=none∧BC (Cd ((r.legs.length:Int)+1) p.2.1.turned p.2.2.turn p.2.2.legs n p.2.1.tm p.2.1.stop) k=none) ∨
    ∃ x y,BC (Cd ((r.legs.length:Int)+1) p.1.1.turned p.1.2.turn p.1.2.legs n p.1.1.tm p.1.1.stop) k=some x∧BC (Cd ((r.legs.length:Int)+1) p.2.1.turned p.2.2.turn p.2.2.legs n p.2.1.tm p.2.1.stop) k=some y∧x≤y:=by
  have hle:∀ (k:Nat)(d d':Int),(r.legs.map Rg.lo)[k]? = some d→(r.legs.map Rg.hi)[k]? = some d'→d≤d':=fun k d d' h1 h2=>by
    rw [List.getElem?_map] at h1 h2
    obtain⟨x,hx,rfl⟩:=Option.map_eq_some_iff.1 h1
    rw [hx] at h2
    cases h2
    have:=V.legs x (List.mem_of_getElem? hx)
    omega
  unfold G0 at hp
  rcases List.mem_append.1 hp with hp | hp
  · obtain⟨i,hi,rfl⟩:=List.mem_map.1 hp
    have hi:i<r.buses.length:=by simpa using hi
    have ok:=Ld DH.low V A i hi
    have hb:=V.buses _ (List.getElem_mem hi)
    have:=V.turn
    exact HH (turn:=r.turn.lo) (turn':=r.turn.hi) ok.t (by simp) hle (by omega) n _ _ _ k (by simp only [En,Bp _ _ hi]; omega)
  · obtain⟨j,hj,h⟩:=List.mem_filterMap.1 hp
    split at h
    · cases h
      have ok:=Ny DH.low V j (by simpa using hj)
      exact HH ok.t (by simp) hle (Int.le_refl _) n _ _ _ k (Int.le_refl _)
    · cases h
def AX (r:Af) (a:Am) (k:Nat):List Rg:=(G0 r a).filterMap fun p=>Eo ((r.legs.length:Int)+1) 40 p k
theorem CG (st:Int) (n:Nat) (k:Int):∀ (i:Nat)(l:List ((Bi×A5)×(Bi×A5))),(Ci st n k i l).map Prod.snd=l.filterMap fun p=>Eo st n p k
  | _,[]=>rfl
  | i,p::r=>by
    rw [Ci,List.filterMap_cons]
    cases Eo st n p k with
    | none=>exact CG st n k (i+1) r
    | some x=>simp only [List.map_cons,CG st n k (i+1) r]
theorem OT {r:Af} {a:Am} (V:Bg r) (A:CZ r a) (k:Nat):∀ x∈AX r a k,x.lo≤x.hi:=fun x hx=>by
  obtain⟨p,hp,h⟩:=List.mem_filterMap.1 hx
  unfold Eo at h
  rcases OS V hp 40 k A with⟨h1,h2⟩ | ⟨u,v,h1,h2,h3⟩
  · rw [h1,h2] at h; cases h
  · rw [h1,h2] at h; cases h; exact h3
theorem Lf {α:Type}:∀ l:List α,List.mapM id (l.map some)=some l
  | []=>rfl
  | x::r=>by rw [List.map_cons,List.mapM_cons,Lf r]; rfl
theorem M6 (st:Nat) (x18:List (Option (List (Int×Rg)))) (h18:x18.length=st) (hb:st≤50):∀ (n i:Nat)(x:List (Option (List (Int×Rg)))),st<n+i→i≤st→x.length=st→(∀ k,k<i→x[k]? = some (some []))→Bl n x18 x (i:Int)=some (List.replicate st (some []))
  | 0,i,x,h,hi,_,_=>by omega
  | n+1,i,x,h,hi,hx,hk=>by
    rw [Bl,Bu,h18]
    by_cases hi':i<st
    · simp only [hi',decide_true,cond_true]
      rw [AC _ i (by omega)]
      simp only [Option.bind_some]
      rw [Ry _ i _ (by omega)]
      simp only [Option.bind_some]
      rw [Cw i (by omega),M6 st x18 h18 hb n (i+1) _ (by omega) (by omega) (by simpa using hx) fun k hk'=>?_]
      rw [List.getElem?_set]
      by_cases hik:i=k
      · subst hik; simp; omega
      · simp only [hik,if_false]; exact hk k (by omega)
    · simp only [hi',decide_false,cond_false,Option.some.injEq]
      apply List.ext_getElem?
      intro k
      by_cases hks:k<st
      · rw [hk k (by omega),List.getElem?_replicate]; simp [hks]
      · rw [List.getElem?_eq_none (by omega),List.getElem?_eq_none (by simp; omega)]
theorem Q3 (n:Nat) (r:Af) (a:Am) (V:Bg r) (A:CZ r a) (hn:80≤n) (hn2:n≤900):BX n ⟨r,a⟩=some ((List.range (r.legs.length+1)).map fun(k:Nat)=>EY.mk (Ci ((r.legs.length:Int)+1) 40 k 0 (G0 r a))):=by
  have:=V.nl
  have:=V.nb
  have:=V.ns
  unfold BX
  simp only []
  rw [E7 n r (by omega),Option.bind_some]
  have eM:mk ((r.legs.length:Int)+1) (none:Option (List (Int×Rg)))=some (List.replicate (r.legs.length+1) none):=by
    rw [show((r.legs.length:Int)+1)=((r.legs.length+1:Nat):Int) by omega]; exact Vg _ _ (by omega)
  rw [eM,Option.bind_some]
  have e0:=M6 (r.legs.length+1) (List.replicate (r.legs.length+1) (none:Option (List (Int×Rg)))) (by simp) (by omega) n 0 (List.replicate (r.legs.length+1) none) (by omega) (by omega) (by simp) (fun k hk=>by omega)
  simp only [Int.natCast_zero] at e0
  rw [e0,Sf n r Rg.lo (fun y0=>Ce n y0) (fun x=>rfl) (by omega) (by omega) (by omega) (by omega),Sf n r Rg.hi (fun y0=>BS n y0) (fun x=>rfl) (by omega) (by omega) (by omega) (by omega),Option.bind_some,Option.bind_some]
  rw [Qx n r a _ (Nw DH.low V A) (by omega),Option.bind_some,Option.bind_some,Qx n r a _ (Nw DH.high V A) (by omega),Option.bind_some]
  have e2:=M0 ⟨r,a⟩ (Cz r a (D6 r Rg.lo)) (Cz r a (D6 r Rg.hi)) (by simp only; omega) (SN r a) (Le DH.low V A) (Le DH.high V A) 60 (by omega) (by omega) (by have:=G9 r a Rg.lo; omega)
    (fun m hm1 hm2 p hp=>by
      have hz:=hp
      rw [JZ] at hz
      have hp1:p.1∈Cz r a (D6 r Rg.lo):=(List.of_mem_zip (show(p.1,p.2)∈_ from hp)).1
      have hp2:p.2∈Cz r a (D6 r Rg.hi):=(List.of_mem_zip (show(p.1,p.2)∈_ from hp)).2
      refine⟨fun k=>?_,fun k=>Q2 (by omega) (Le DH.low V A _ hp1) (Le DH.high V A _ hp2) hm1 k⟩
      rcases OS V hz m k A with⟨h1,h2⟩ | ⟨x,y,h1,h2,_⟩
      · simp only; rw [h1,h2]
      · simp only; rw [h1,h2]; simp) n 0 (List.replicate (r.legs.length+1) []) (by have:=G9 r a Rg.lo; omega) (by omega) (by omega) (by simp) (fun m hm p hp=>by
        rw [(List.mem_replicate.1 hm).2] at hp; cases hp)
  simp only [Int.natCast_zero,List.map_replicate,List.drop_zero] at e2
  rw [e2,Option.bind_some,Lf,Option.bind_some,List.map_map,Option.some.injEq]
  refine List.map_congr_left fun k hk=>?_
  rw [List.mem_range] at hk
  simp only [Function.comp,JZ,List.getElem?_replicate,hk,if_true,Option.getD_some,List.nil_append]
def C0 (r:Af) (a:Am):List Int:=(List.range (r.legs.length+1)).map fun k=>WR r.fr r.to_ (AX r a k)
theorem Tj (n:Nat) (r:Af) (a:Am) (V:Bg r) (A:CZ r a) (hn:100≤n) (hn2:n≤900):BY n ⟨r,a⟩=some (C0 r a):=by
  have:=V.nl
  have:=V.nb
  have:=V.ns
  have:=V.looked
  unfold BY
  rw [Q3 n r a V A (by omega) hn2]
  simp only [Option.bind_some]
  have e:=M5 ⟨r,a⟩ ((List.range (r.legs.length+1)).map fun(k:Nat)=>Ci ((r.legs.length:Int)+1) 40 k 0 (G0 r a)) (by simp; omega) (fun l hl=>by
    obtain⟨k,_,rfl⟩:=List.mem_map.1 hl
    refine⟨?_,by rw [CG]; exact OT V A k⟩
    have h1:(Ci ((r.legs.length:Int)+1) 40 k 0 (G0 r a)).length=((Ci ((r.legs.length:Int)+1) 40 k 0 (G0 r a)).map Prod.snd).length:=by simp
    rw [h1,CG]
    refine Nat.le_trans (List.length_filterMap_le _ _) ?_
    rw [← JZ,List.length_zip]
    have:=G9 r a Rg.lo
    omega) (by simp only; omega) (by simp only; omega) (by simp only; omega) n 0 [] (by simp; omega) (by omega) rfl
  simp only [Int.natCast_zero,List.nil_append,List.drop_zero,List.map_map] at e
  simp only [Function.comp_def] at e
  rw [e]
  simp only [Option.bind_some,C0,AX,CG]
end Go.Proofs.Ytokchpjijlebiaa
namespace Go.Proofs.Ytokchpjijlebiaa
open Go Go.RowKit
end Go.Proofs.Ytokchpjijlebiaa
namespace Go.Proofs.Ytokchpjijlebiaa
open Go Go.RowKit
def AI.put (x:AI) (k:Nat) (v:Int):AI:=match k with
  | 0=>⟨v,x.a1,x.a2,x.a3⟩
  | 1=>⟨x.a0,v,x.a2,x.a3⟩
  | 2=>⟨x.a0,x.a1,v,x.a3⟩
  | _=>⟨x.a0,x.a1,x.a2,v⟩
def AT.put (x:AT) (k:Nat) (v:Bool):AT:=match k with
  | 0=>⟨v,x.a1⟩
  | _=>⟨x.a0,v⟩
theorem AI.setI_put (x:AI) (v:Int):∀ k:Nat,k<4→AI.setI x (k:Int) v=some (x.put k v)
  | 0,_=>rfl
  | 1,_=>rfl
  | 2,_=>rfl
  | 3,_=>rfl
  | k+4,h=>by omega
theorem AT.setI_put (x:AT) (v:Bool):∀ k:Nat,k<2→AT.setI x (k:Int) v=some (x.put k v)
  | 0,_=>rfl
  | 1,_=>rfl
  | k+2,h=>by omega
theorem AI.put_put (x:AI) (u v:Int):∀ k:Nat,k<4→(x.put k u).put k v=x.put k v
  | 0,_=>rfl
  | 1,_=>rfl
  | 2,_=>rfl
  | 3,_=>rfl
  | k+4,h=>by omega
theorem AT.put_put (x:AT) (u v:Bool):∀ k:Nat,k<2→(x.put k u).put k v=x.put k v
  | 0,_=>rfl
  | 1,_=>rfl
  | k+2,h=>by omega
theorem AI.toL_put (x:AI) (v:Int):∀ k:Nat,k<4→(x.put k v).toL=x.toL.set k v
  | 0,_=>rfl
  | 1,_=>rfl
  | 2,_=>rfl
  | 3,_=>rfl
  | k+4,h=>by omega
theorem AT.toL_put (x:AT) (v:Bool):∀ k:Nat,k<2→(x.put k v).toL=x.toL.set k v
  | 0,_=>rfl
  | 1,_=>rfl
  | k+2,h=>by omega
theorem U7 (n k:Nat) (h:k<n):UJ n (k:Int)=some ():=by unfold UJ; rw [if_pos (by omega)]
def D7 (nb k:Nat) (v:Int) (p:Ap×Bb):Ap×Bb :=
  if k<nb then(⟨p.1.holds.put k v,p.1.turns,p.1.spares⟩,⟨p.2.number+min v 1,p.2.sum+v⟩)
  else if k<2*nb then(⟨p.1.holds,p.1.turns.put (k-nb) v,p.1.spares⟩,⟨p.2.number+min (v+1) 1,p.2.sum⟩)
  else(⟨p.1.holds,p.1.turns,p.1.spares.put (k-2*nb) (v == 1)⟩,⟨p.2.number+v,p.2.sum⟩)
def Ft (r:Af) (b:Cy) (t:Int):Bool:=decide (t=-1) || decide (b.stop≤t∧t≤(((r.legs.length+1) / 2:Nat):Int)-2)
def ER (r:Af) (b:Cy):List Int:=((List.range ((r.legs.length+1) / 2+1)).map fun(i:Nat)=>(i:Int)-1).filter (Ft r b)
def GO (r:Af) (k:Nat):List Int:=if k<r.buses.length then [0,1,2] else if k<2*r.buses.length then ER r (r.buses[k-r.buses.length]!) else [0,1]
def Ib (r:Af):Nat→Nat→List (List Int)
  | 0,_=>[[]]
  | n+1,k=>(GO r k).flatMap fun v=>(Ib r n (k+1)).map (v::·)
def Fp (nb:Nat):Nat→List Int→Ap×Bb→Ap×Bb
  | _,[],p=>p
  | k,v::q,p=>Fp nb (k+1) q (D7 nb k v p)
theorem Jh {α β σ:Type} (f:α→List β) (g:σ→β→Option σ):∀ (l:List α)(s:σ),(l.flatMap f).foldlM g s=l.foldlM (fun s a=>(f a).foldlM g s) s
  | [],s=>rfl
  | a::l,s=>by
    rw [List.flatMap_cons,List.foldlM_append,List.foldlM_cons]
    congr 1
    funext s'
    exact Jh f g l s'
theorem Q4 (v:Int):(if 1<v then 1 else v)=min v 1:=by omega
section
variable {σ:Type} (see:σ→Ap→Bb→Option σ)
def Ku (r:Af) (n k:Nat) (d:Ap) (c:Bb) (s:σ):Option σ:=(Ib r n k).foldlM (fun s q=>see s (Fp r.buses.length k q (d,c)).1 (Fp r.buses.length k q (d,c)).2) s
theorem R2 (r:Af) (k:Nat) (d:Ap) (c:Bb) (s:σ):Ku see r 0 k d c s=see s d c:=by
  show(see s d c).bind some=_
  cases see s d c <;> rfl
theorem R3 (r:Af) (n k:Nat) (d:Ap) (c:Bb) (s:σ):Ku see r (n+1) k d c s=(GO r k).foldlM (fun s v=>Ku see r n (k+1) (D7 r.buses.length k v (d,c)).1 (D7 r.buses.length k v (d,c)).2 s) s:=by
  unfold Ku
  rw [Ib,Jh]
  congr 1
  funext s v
  rw [List.foldlM_map]
  rfl
structure GP (c:Bb) (k:Nat):Prop where
  n0:0≤c.number
  n1:c.number≤k
  s0:0≤c.sum
  s1:c.sum≤2*k
theorem GP.step {nb k:Nat} {v:Int} {p:Ap×Bb} (h:GP p.2 k) (h0:k<nb→0≤v∧v≤2) (h1 : ¬ k<nb→k<2*nb→-1≤v) (h2 : ¬ k<2*nb→0≤v∧v≤1):GP (D7 nb k v p).2 (k+1):=by
  obtain⟨a,b,c,d⟩:=h
  unfold D7
  by_cases c1:k<nb
  · have:=h0 c1
    simp only [c1,if_true]
    constructor <;> simp only <;> omega
  · by_cases c2:k<2*nb
    · have:=h1 c1 c2
      simp only [c1,c2,if_true,if_false]
      constructor <;> simp only <;> omega
    · have:=h2 c2
      simp only [c1,c2,if_false]
      constructor <;> simp only <;> omega
theorem M7 (r:Af) (d:Ap) (c:Bb) (k B:Nat) (hk:k<r.buses.length) (hb:r.buses.length≤4) (hc:GP c k) (E:Ap→Bb→σ→Option σ)
    (hE:∀ m d' c' s',B≤m→GP c' (k+1)→control_Route_every_1 m see d' c' ((k+1:Nat):Int) ((r.buses.length:Nat):Int) r s' = E d' c' s'):∀ (j:Nat)(n:Nat)(i:Nat)(u:AI)(s:σ),i+j=3→B+j<n→(∀ v,u.put k v=d.holds.put k v) →
    (AQ n see d c (k:Int) ((r.buses.length:Nat):Int) r (i:Int) u s).bind (fun o=>some o.2)=(([0,1,2]:List Int).drop i).foldlM (fun s v=>E (D7 r.buses.length k v (d,c)).1 (D7 r.buses.length k v (d,c)).2 s) s
  | 0,0,i,u,s,_,h,_=>by omega
  | 0,n+1,i,u,s,hi,_,_=>by
    obtain rfl:i=3:=by omega
    rw [AQ]
    rfl
  | j+1,0,i,u,s,_,h,_=>by omega
  | j+1,n+1,i,u,s,hi,hn,hu=>by
    rw [AQ]
    have h3:decide ((i:Int)<3)=true:=decide_eq_true (by omega)
    have hd:([0,1,2]:List Int).drop i=(i:Int)::([0,1,2]:List Int).drop (i+1):=by
      have:i=0∨i=1∨i=2:=by omega
      rcases this with rfl | rfl | rfl <;> rfl
    obtain⟨a1,a2,a3,a4⟩:=id hc
    rw [h3,cond_true,U7 4 k (by omega),Option.bind_some,AI.setI_put _ _ k (by omega),Option.bind_some,hd,List.foldlM_cons]
    rw [FF (x:=c.number+_) (by omega) (by omega),FF (x:=c.sum+_) (by omega) (by omega),Cw k (by omega),Cw i (by omega),Q4]
    rw [hE n _ _ _ (by omega) (by constructor <;> simp only <;> omega)]
    have e1:D7 r.buses.length k (i:Int) (d,c)=(Ap.mk (u.put k i) d.turns d.spares,Bb.mk (c.number+min (i:Int) 1) (c.sum+i)):=by
      unfold D7; rw [if_pos hk,hu]
    rw [e1]
    cases E (Ap.mk (u.put k i) d.turns d.spares) (Bb.mk (c.number+min (i:Int) 1) (c.sum+i)) s with
    | none=>rfl
    | some s' =>
      exact M7 r d c k B hk hb hc E hE j n (i+1) _ s' (by omega) (by omega) fun v=>by rw [AI.put_put _ _ _ k (by omega)]; exact hu v
theorem M8 (r:Af) (d:Ap) (c:Bb) (k B:Nat) (hk : ¬ k<2*r.buses.length) (hk2:k<2*r.buses.length+r.spares.length) (hb:r.buses.length≤4) (hs:r.spares.length≤2) (hc:GP c k) (E:Ap→Bb→σ→Option σ)
    (hE:∀ m d' c' s',B≤m→GP c' (k+1)→control_Route_every_1 m see d' c' ((k+1:Nat):Int) ((r.buses.length:Nat):Int) r s' = E d' c' s'):∀ (j:Nat)(n:Nat)(i:Nat)(u:AT)(s:σ),i+j=2→B+j<n→(∀ v,u.put (k-2*r.buses.length) v=d.spares.put (k-2*r.buses.length) v) →
    (AR n see d c (k:Int) ((r.buses.length:Nat):Int) r (i:Int) u s).bind (fun o=>some o.2)=(([0,1]:List Int).drop i).foldlM (fun s v=>E (D7 r.buses.length k v (d,c)).1 (D7 r.buses.length k v (d,c)).2 s) s
  | 0,0,i,u,s,_,h,_=>by omega
  | 0,n+1,i,u,s,hi,_,_=>by
    obtain rfl:i=2:=by omega
    rw [AR]
    rfl
  | j+1,0,i,u,s,_,h,_=>by omega
  | j+1,n+1,i,u,s,hi,hn,hu=>by
    rw [AR]
    have h3:decide ((i:Int)<2)=true:=decide_eq_true (by omega)
    have hd:([0,1]:List Int).drop i=(i:Int)::([0,1]:List Int).drop (i+1):=by
      have:i=0∨i=1:=by omega
      rcases this with rfl | rfl <;> rfl
    obtain⟨a1,a2,a3,a4⟩:=id hc
    rw [FF (x:=2*_) (by omega) (by omega),FF (x:=(k:Int)-_) (by omega) (by omega),show(k:Int)-2*((r.buses.length:Nat):Int)=((k-2*r.buses.length:Nat):Int) by omega]
    rw [h3,cond_true,U7 2 _ (by omega),Option.bind_some,AT.setI_put _ _ _ (by omega),Option.bind_some,hd,List.foldlM_cons]
    rw [FF (x:=c.number+_) (by omega) (by omega),Cw k (by omega),Cw i (by omega)]
    rw [hE n _ _ _ (by omega) (by constructor <;> simp only <;> omega)]
    have e1:D7 r.buses.length k (i:Int) (d,c)=(Ap.mk d.holds d.turns (u.put (k-2*r.buses.length) ((i:Int) == 1)),Bb.mk (c.number+(i:Int)) c.sum):=by
      unfold D7; rw [if_neg (by omega),if_neg hk,hu]
    rw [e1]
    cases E (Ap.mk d.holds d.turns (u.put (k-2*r.buses.length) ((i:Int) == 1))) (Bb.mk (c.number+(i:Int)) c.sum) s with
    | none=>rfl
    | some s' =>
      exact M8 r d c k B hk hk2 hb hs hc E hE j n (i+1) _ s' (by omega) (by omega) fun v=>by rw [AT.put_put _ _ _ _ (by omega)]; exact hu v
theorem M9 (r:Af) (d:Ap) (c:Bb) (k B:Nat) (hk : ¬ k<r.buses.length) (hk2:k<2*r.buses.length) (hb:r.buses.length≤4) (hl:r.legs.length≤20) (hc:GP c k) (E:Ap→Bb→σ→Option σ)
    (hE:∀ m d' c' s',B≤m→GP c' (k+1)→control_Route_every_1 m see d' c' ((k+1:Nat):Int) ((r.buses.length:Nat):Int) r s' = E d' c' s'):∀ (j:Nat)(n:Nat)(i:Nat)(u:AI)(s:σ),i+j=(r.legs.length+1) / 2+1→B+j<n→(∀ v,u.put (k-r.buses.length) v=d.turns.put (k-r.buses.length) v) →
    (AB n see d c (k:Int) ((r.buses.length:Nat):Int) r ((i:Int)-1) u s).bind (fun o=>some o.2)=((((List.range ((r.legs.length+1) / 2+1)).drop i).map fun(i:Nat)=>(i:Int)-1).filter (Ft r (r.buses[k-r.buses.length]!))).foldlM (fun s v=>E (D7 r.buses.length k v (d,c)).1 (D7 r.buses.length k v (d,c)).2 s) s
  | 0,0,i,u,s,_,h,_=>by omega
  | 0,n+1,i,u,s,hi,_,_=>by
    have hd:(List.range ((r.legs.length+1) / 2+1)).drop i=[]:=List.drop_eq_nil_of_le (by simp; omega)
    rw [AB,JY n r hl,Option.bind_some,decide_eq_false (by omega),cond_false,hd]
    rfl
  | j+1,0,i,u,s,_,h,_=>by omega
  | j+1,n+1,i,u,s,hi,hn,hu=>by
    have q6:i<(List.range ((r.legs.length+1) / 2+1)).length:=by simp; omega
    have hkb:k-r.buses.length<r.buses.length:=by omega
    obtain⟨a1,a2,a3,a4⟩:=id hc
    rw [AB,JY n r hl,Option.bind_some,decide_eq_true (show(i:Int)-1<(((r.legs.length+1) / 2:Nat):Int) by omega),cond_true,Az q6,List.getElem_range]
    rw [FF (x:=(k:Int)-_) (by omega) (by omega),show(k:Int)-((r.buses.length:Nat):Int)=((k-r.buses.length:Nat):Int) by omega,AC _ _ hkb,Option.bind_some,Ti n r _ _ hl,Option.bind_some,Bp _ _ hkb]
    rw [List.map_cons,List.filter_cons]
    rw [FF (x:=(i:Int)-1+1) (by omega) (by omega),show(i:Int)-1+1=(i:Int) by omega,show(i:Int)=((i+1:Nat):Int)-1 by omega]
    have hok:Ft r r.buses[k-r.buses.length] (((i+1:Nat):Int)-1-1)=(decide (((i+1:Nat):Int)-1-1=-1) || decide ((r.buses[k-r.buses.length]).stop≤((i+1:Nat):Int)-1-1∧((i+1:Nat):Int)-1-1≤(((r.legs.length+1) / 2:Nat):Int)-2)):=rfl
    have IH:=M9 r d c k B hk hk2 hb hl hc E hE j n (i+1)
    rw [Bp _ _ hkb] at IH
    rw [← hok]
    cases hcase:Ft r r.buses[k-r.buses.length] (((i+1:Nat):Int)-1-1) with
    | false =>
      simp only [cond_false,Bool.false_eq_true,if_false]
      exact IH u s (by omega) (by omega) hu
    | true =>
      simp only [cond_true,if_true]
      rw [U7 4 _ (by omega),Option.bind_some,AI.setI_put _ _ _ (by omega),Option.bind_some,List.foldlM_cons,Q4]
      rw [FF (x:=c.number+_) (by omega) (by omega),Cw k (by omega)]
      rw [hE n _ _ _ (by omega) (by constructor <;> simp only <;> omega)]
      have e1:D7 r.buses.length k (((i+1:Nat):Int)-1-1) (d,c)=(Ap.mk d.holds (u.put (k-r.buses.length) (((i+1:Nat):Int)-1-1)) d.spares,Bb.mk (c.number+min (((i+1:Nat):Int)-1) 1) c.sum):=by
        unfold D7; rw [if_neg hk,if_pos hk2,hu,show((i+1:Nat):Int)-1-1+1=((i+1:Nat):Int)-1 by omega]
      rw [e1]
      cases E (Ap.mk d.holds (u.put (k-r.buses.length) (((i+1:Nat):Int)-1-1)) d.spares) (Bb.mk (c.number+min (((i+1:Nat):Int)-1) 1) c.sum) s with
      | none=>rfl
      | some s'=>exact IH _ s' (by omega) (by omega) fun v=>by rw [AI.put_put _ _ _ _ (by omega)]; exact hu v
theorem Nz (r:Af) (hb:r.buses.length≤4) (hs:r.spares.length≤2) (hl:r.legs.length≤7):∀ (j n k:Nat)(d:Ap)(c:Bb)(s:σ),k+j=2*r.buses.length+r.spares.length→10*j<n→GP c k →
    control_Route_every_1 n see d c (k:Int) ((r.buses.length:Nat):Int) r s=Ku see r j k d c s
  | j,0,k,d,c,s,_,h,_=>by omega
  | 0,n+1,k,d,c,s,hk,hn,hc=>by
    rw [control_Route_every_1,FF (x:=2*_) (by omega) (by omega),FF (by omega) (by omega),decide_eq_false (by omega),decide_eq_false (by omega),decide_eq_false (by omega),R2]
    simp only [cond_false]
    cases see s d c <;> rfl
  | j+1,n+1,k,d,c,s,hk,hn,hc=>by
    have IH:∀ m d' c' s',10*j+1≤m→GP c' (k+1)→control_Route_every_1 m see d' c' ((k+1:Nat):Int) ((r.buses.length:Nat):Int) r s' = Ku see r j (k+1) d' c' s':=fun m d' c' s' hm hc'=>Nz r hb hs hl j m (k+1) d' c' s' (by omega) (by omega) hc'
    rw [control_Route_every_1,FF (x:=2*_) (by omega) (by omega),FF (by omega) (by omega),R3]
    by_cases c1:k<r.buses.length
    · rw [decide_eq_true (by omega),cond_true]
      have e:=M7 see r d c k (10*j+1) c1 hb hc (fun d c s=>Ku see r j (k+1) d c s) IH 3 n 0 d.holds s rfl (by omega) (fun _=>rfl)
      rw [Int.natCast_zero,List.drop_zero] at e
      rw [e]
      unfold GO
      rw [if_pos c1]
    · rw [decide_eq_false (by omega),cond_false]
      by_cases c2:k<2*r.buses.length
      · rw [decide_eq_true (by omega),cond_true]
        have e:=M9 see r d c k (10*j+1) c1 c2 hb (by omega) hc (fun d c s=>Ku see r j (k+1) d c s) IH ((r.legs.length+1) / 2+1) n 0 d.turns s (by omega) (by omega) (fun _=>rfl)
        rw [Int.natCast_zero,List.drop_zero,show(0:Int)-1=-1 from rfl] at e
        rw [e]
        unfold GO
        rw [if_neg c1,if_pos c2]
        rfl
      · rw [decide_eq_false (by omega),cond_false,decide_eq_true (by omega),cond_true]
        have e:=M8 see r d c k (10*j+1) c2 (by omega) hb hs hc (fun d c s=>Ku see r j (k+1) d c s) IH 2 n 0 d.spares s rfl (by omega) (fun _=>rfl)
        rw [Int.natCast_zero,List.drop_zero] at e
        rw [e]
        unfold GO
        rw [if_neg c1,if_neg c2]
def BQ (r:Af):List (List Int):=Ib r (2*r.buses.length+r.spares.length) 0
def Te:Ap×Bb:=(Ap.mk (AI.mk 0 0 0 0) (AI.mk 0 0 0 0) (AT.mk false false),Bb.mk 0 0)
def EH (r:Af) (q:List Int):Ap×Bb:=Fp r.buses.length 0 q Te
theorem Q5 (n:Nat) (r:Af) (s:σ) (hb:r.buses.length≤4) (hs:r.spares.length≤2) (hl:r.legs.length≤7) (hn:101≤n):B2 n see r s=(BQ r).foldlM (fun s q=>see s (EH r q).1 (EH r q).2) s:=by
  unfold B2
  have e:=Nz see r hb hs hl (2*r.buses.length+r.spares.length) n 0 Te.1 Te.2 s (by omega) (by omega) ⟨Int.le_refl _,Int.le_refl _,Int.le_refl _,Int.le_refl _⟩
  rw [Int.natCast_zero] at e
  show(control_Route_every_1 n see Te.1 Te.2 0 _ r s).bind _=_
  rw [e]
  show Option.bind _ some=_
  cases hR:Ku see r (2*r.buses.length+r.spares.length) 0 Te.1 Te.2 s <;> exact hR.symm
end
end Go.Proofs.Ytokchpjijlebiaa
namespace Go.Proofs.Ytokchpjijlebiaa
open Go Go.RowKit
def OA (b:Bool):Int:=if b then 1 else 0
def enc (a:Am):List Int:=a.holds++a.turns++a.spares.map OA
def Da (r:Af) (q:List Int):Am:=⟨q.take r.buses.length,(q.drop r.buses.length).take r.buses.length,(q.drop (2*r.buses.length)).map fun v=>v == 1⟩
def FL (a:Am):Int:=(a.holds.map fun h=>min h 1).sum+(a.turns.map fun t=>min (t+1) 1).sum+(a.spares.map OA).sum
def Gp (a:Am):Int:=a.holds.sum
def Lg:List Int→List Int→Bool
  | x::xs,y::ys=>if x=y then Lg xs ys else decide (x<y)
  | _,_=>false
def Cx (a b:Am):Bool:=if FL a=FL b then(if Gp a=Gp b then Lg (enc a) (enc b) else decide (Gp a<Gp b)) else decide (FL a<FL b)
theorem Ic:∀ x:List Int,Lg x x=false
  | []=>rfl
  | x::xs=>by rw [Lg,if_pos rfl,Ic xs]
theorem OU:∀ {x y:List Int},Lg x y=true→Lg y x=false
  | [],y,h=>by simp [Lg] at h
  | x::xs,[],h=>by simp [Lg] at h
  | x::xs,y::ys,h=>by
    rw [Lg] at h ⊢
    by_cases e:x=y
    · subst e
      rw [if_pos rfl] at h ⊢
      exact OU h
    · rw [if_neg e] at h
      rw [if_neg (Ne.symm e)]
      have:=of_decide_eq_true h
      exact decide_eq_false (by omega)
theorem Tk:∀ {x y:List Int},x.length=y.length→Lg x y=false→Lg y x=false→x=y
  | [],[],_,_,_=>rfl
  | [],y::ys,h,_,_=>by simp at h
  | x::xs,[],h,_,_=>by simp at h
  | x::xs,y::ys,h,h1,h2=>by
    rw [Lg] at h1 h2
    by_cases e:x=y
    · subst e
      rw [if_pos rfl] at h1 h2
      rw [Tk (by simpa using h) h1 h2]
    · rw [if_neg e] at h1
      rw [if_neg (Ne.symm e)] at h2
      have:=of_decide_eq_false h1
      have:=of_decide_eq_false h2
      omega
theorem R4 {a b:Am} (h:(enc a).length=(enc b).length) (h1:Cx a b=false) (h2:Cx b a=false):enc a=enc b:=by
  unfold Cx at h1 h2
  by_cases e:FL a=FL b
  · rw [if_pos e] at h1; rw [if_pos e.symm] at h2
    by_cases e2:Gp a=Gp b
    · rw [if_pos e2] at h1; rw [if_pos e2.symm] at h2
      exact Tk h h1 h2
    · rw [if_neg e2] at h1; rw [if_neg (Ne.symm e2)] at h2
      have:=of_decide_eq_false h1
      have:=of_decide_eq_false h2
      omega
  · rw [if_neg e] at h1; rw [if_neg (Ne.symm e)] at h2
    have:=of_decide_eq_false h1
    have:=of_decide_eq_false h2
    omega
def Ji (nb:Nat):Nat→List Int→Int
  | _,[]=>0
  | k,v::q=>(if k<nb then min v 1 else if k<2*nb then min (v+1) 1 else v)+Ji nb (k+1) q
def Jj (nb:Nat):Nat→List Int→Int
  | _,[]=>0
  | k,v::q=>(if k<nb then v else 0)+Jj nb (k+1) q
theorem OV (nb:Nat):∀ (q:List Int)(k:Nat)(p:Ap×Bb),(Fp nb k q p).2=⟨p.2.number+Ji nb k q,p.2.sum+Jj nb k q⟩
  | [],k,p=>by simp [Fp,Ji,Jj]
  | v::q,k,p=>by
    rw [Fp,OV nb q (k+1),Ji,Jj]
    unfold D7
    by_cases c1:k<nb
    · simp only [c1,if_true,Int.add_assoc]
    · by_cases c2:k<2*nb
      · simp only [c1,c2,if_true,if_false,Int.add_assoc,Int.zero_add]
      · simp only [c1,c2,if_false,Int.add_assoc,Int.zero_add]
theorem Jk (nb:Nat):∀ (x y:List Int)(k:Nat),Ji nb k (x++y)=Ji nb k x+Ji nb (k+x.length) y
  | [],y,k=>by simp [Ji]
  | v::x,y,k=>by
    rw [List.cons_append,Ji,Jk nb x y (k+1),Ji,Int.add_assoc,List.length_cons,show k+1+x.length=k+(x.length+1) by omega]
theorem Jl (nb:Nat):∀ (x y:List Int)(k:Nat),Jj nb k (x++y)=Jj nb k x+Jj nb (k+x.length) y
  | [],y,k=>by simp [Jj]
  | v::x,y,k=>by
    rw [List.cons_append,Jj,Jl nb x y (k+1),Jj,Int.add_assoc,List.length_cons,show k+1+x.length=k+(x.length+1) by omega]
theorem N0 (nb:Nat):∀ (x:List Int)(k:Nat),k+x.length≤nb→Ji nb k x=(x.map fun h=>min h 1).sum∧Jj nb k x=x.sum
  | [],_,_=>⟨rfl,rfl⟩
  | v::x,k,h=>by
    rw [List.length_cons] at h
    have IH:=N0 nb x (k+1) (by omega)
    rw [Ji,Jj,IH.1,IH.2,if_pos (by omega),if_pos (by omega),List.map_cons,List.sum_cons,List.sum_cons]
    exact⟨rfl,rfl⟩
theorem N1 (nb:Nat):∀ (x:List Int)(k:Nat),nb≤k→k+x.length≤2*nb→Ji nb k x=(x.map fun t=>min (t+1) 1).sum∧Jj nb k x=0
  | [],_,_,_=>⟨rfl,rfl⟩
  | v::x,k,h0,h=>by
    rw [List.length_cons] at h
    have IH:=N1 nb x (k+1) (by omega) (by omega)
    rw [Ji,Jj,IH.1,IH.2,if_neg (by omega),if_pos (by omega),if_neg (by omega),List.map_cons,List.sum_cons]
    exact⟨rfl,rfl⟩
theorem MA (nb:Nat):∀ (x:List Int)(k:Nat),2*nb≤k→Ji nb k x=x.sum∧Jj nb k x=0
  | [],_,_=>⟨rfl,rfl⟩
  | v::x,k,h0=>by
    have IH:=MA nb x (k+1) (by omega)
    rw [Ji,Jj,IH.1,IH.2,if_neg (by omega),if_neg (by omega),if_neg (by omega),List.sum_cons]
    exact⟨rfl,rfl⟩
theorem Jm (nb:Nat):∀ (x y:List Int)(k:Nat)(p:Ap×Bb),Fp nb k (x++y) p=Fp nb (k+x.length) y (Fp nb k x p)
  | [],y,k,p=>rfl
  | v::x,y,k,p=>by
    rw [List.cons_append,Fp,Jm nb x y (k+1),Fp,List.length_cons,show k+1+x.length=k+(x.length+1) by omega]
theorem Md {α:Type} (l x:List α) (v:α) (k:Nat) (h:k+(x.length+1)≤l.length):(l.set k v).take (k+1)++x++(l.set k v).drop (k+1+x.length)=l.take k++v::x++l.drop (k+(x.length+1)):=by
  have hk:k<l.length:=by omega
  have h1:(l.set k v).take (k+1)=l.take k++[v]:=by
    rw [List.take_succ,List.getElem?_set_self hk,List.take_set_of_le (Nat.le_refl k)]; rfl
  rw [h1,List.drop_set_of_lt (by omega),show k+1+x.length=k+(x.length+1) by omega]
  simp
theorem N2 (nb:Nat) (hnb:nb≤4):∀ (x:List Int)(k:Nat)(p:Ap×Bb),k+x.length≤nb→(Fp nb k x p).1.holds.toL=p.1.holds.toL.take k++x++p.1.holds.toL.drop (k+x.length)∧(Fp nb k x p).1.turns=p.1.turns∧(Fp nb k x p).1.spares=p.1.spares
  | [],k,p,_=>by simp [Fp]
  | v::x,k,p,h=>by
    rw [List.length_cons] at h
    have e:D7 nb k v p=(⟨p.1.holds.put k v,p.1.turns,p.1.spares⟩,⟨p.2.number+min v 1,p.2.sum+v⟩):=by unfold D7; rw [if_pos (by omega)]
    have IH:=N2 nb hnb x (k+1) (D7 nb k v p) (by omega)
    rw [Fp]
    refine⟨?_,by rw [IH.2.1,e],by rw [IH.2.2,e]⟩
    rw [IH.1,e]
    simp only []
    rw [AI.toL_put _ _ _ (by omega),List.length_cons]
    exact Md _ _ _ _ (by show k+(x.length+1)≤4; omega)
theorem N3 (nb:Nat) (hnb:nb≤4):∀ (x:List Int)(k:Nat)(p:Ap×Bb),nb≤k→k+x.length≤2*nb→(Fp nb k x p).1.turns.toL=p.1.turns.toL.take (k-nb)++x++p.1.turns.toL.drop (k-nb+x.length)∧(Fp nb k x p).1.holds=p.1.holds∧(Fp nb k x p).1.spares=p.1.spares
  | [],k,p,_,_=>by simp [Fp]
  | v::x,k,p,h0,h=>by
    rw [List.length_cons] at h
    have e:D7 nb k v p=(⟨p.1.holds,p.1.turns.put (k-nb) v,p.1.spares⟩,⟨p.2.number+min (v+1) 1,p.2.sum⟩):=by unfold D7; rw [if_neg (by omega),if_pos (by omega)]
    have IH:=N3 nb hnb x (k+1) (D7 nb k v p) (by omega) (by omega)
    rw [Fp]
    refine⟨?_,by rw [IH.2.1,e],by rw [IH.2.2,e]⟩
    rw [IH.1,e]
    simp only []
    rw [AI.toL_put _ _ _ (by omega),List.length_cons,show k+1-nb=k-nb+1 by omega]
    exact Md _ _ _ _ (by show k-nb+(x.length+1)≤4; omega)
theorem MB (nb:Nat):∀ (x:List Int)(k:Nat)(p:Ap×Bb),2*nb≤k→k+x.length≤2*nb+2→(Fp nb k x p).1.spares.toL=p.1.spares.toL.take (k-2*nb)++(x.map fun v=>v == 1)++p.1.spares.toL.drop (k-2*nb+x.length)∧(Fp nb k x p).1.holds=p.1.holds∧(Fp nb k x p).1.turns=p.1.turns
  | [],k,p,_,_=>by simp [Fp]
  | v::x,k,p,h0,h=>by
    rw [List.length_cons] at h
    have e:D7 nb k v p=(⟨p.1.holds,p.1.turns,p.1.spares.put (k-2*nb) (v == 1)⟩,⟨p.2.number+v,p.2.sum⟩):=by unfold D7; rw [if_neg (by omega),if_neg (by omega)]
    have IH:=MB nb x (k+1) (D7 nb k v p) (by omega) (by omega)
    rw [Fp]
    refine⟨?_,by rw [IH.2.1,e],by rw [IH.2.2,e]⟩
    rw [IH.1,e]
    simp only []
    rw [AT.toL_put _ _ _ (by omega),List.length_cons,show k+1-2*nb=k-2*nb+1 by omega,List.map_cons]
    have:=Md p.1.spares.toL (x.map fun v=>v == 1) (v == 1) (k-2*nb) (by rw [List.length_map]; show k-2*nb+(x.length+1)≤2; omega)
    rw [List.length_map] at this
    exact this
def HL (r:Af) (d:Ap):Am:=⟨d.holds.toL.take r.buses.length,d.turns.toL.take r.buses.length,d.spares.toL.take r.spares.length⟩
theorem Tl {α:Type} (xs:List α) (i:Nat) (h:i≤xs.length):NT xs (i:Int)=some (xs.take i):=by
  unfold NT; rw [if_pos (by omega)]; rfl
theorem H2 (n:Nat) (r:Af) (d:Ap) (hb:r.buses.length≤4) (hs:r.spares.length≤2):BT n d r=some (HL r d):=by
  unfold BT
  rw [Tl _ _ (by show _≤4; exact hb),Option.bind_some,Tl _ _ (by show _≤4; exact hb),Option.bind_some,Tl _ _ (by show _≤2; exact hs),Option.bind_some]
  rw [La n _ (by simp; omega),Option.bind_some,La n _ (by simp; omega),Option.bind_some,SL n _ (by simp; omega),Option.bind_some]
  rfl
theorem HM (r:Af) (q:List Int) (hb:r.buses.length≤4) (hs:r.spares.length≤2) (hq:q.length=2*r.buses.length+r.spares.length) (h01:∀ v∈q.drop (2*r.buses.length),v=0∨v=1) :
    HL r (EH r q).1=Da r q∧(EH r q).2=⟨FL (Da r q),Gp (Da r q)⟩∧enc (Da r q)=q:=by
  have e0:q=q.take r.buses.length++((q.drop r.buses.length).take r.buses.length++q.drop (2*r.buses.length)):=by
    have e2:q.drop (2*r.buses.length)=(q.drop r.buses.length).drop r.buses.length:=by rw [List.drop_drop]; congr 1; omega
    rw [e2,List.take_append_drop,List.take_append_drop]
  have l1:(q.take r.buses.length).length=r.buses.length:=by rw [List.length_take]; omega
  have l2:((q.drop r.buses.length).take r.buses.length).length=r.buses.length:=by rw [List.length_take,List.length_drop]; omega
  have l3:(q.drop (2*r.buses.length)).length=r.spares.length:=by rw [List.length_drop]; omega
  have hbits:((q.drop (2*r.buses.length)).map fun v=>v == 1).map OA=q.drop (2*r.buses.length):=by
    rw [List.map_map]
    conv=>rhs; rw [← List.map_id (q.drop (2*r.buses.length))]
    refine List.map_congr_left fun v hv=>?_
    rcases h01 v hv with rfl | rfl <;> rfl
  have e3:enc (Da r q)=q:=by
    unfold enc Da
    simp only []
    rw [hbits,List.append_assoc]
    exact e0.symm
  refine⟨?_,?_,e3⟩
  · unfold EH HL Da
    generalize hX:q.take r.buses.length=X at *
    generalize hY:(q.drop r.buses.length).take r.buses.length=Y at *
    generalize hZ:q.drop (2*r.buses.length)=Z at *
    rw [e0,Jm,Jm]
    have a1:=N2 r.buses.length hb X 0 Te (by omega)
    have a2:=N3 r.buses.length hb Y (0+X.length) (Fp r.buses.length 0 X Te) (by omega) (by omega)
    have a3:=MB r.buses.length Z (0+X.length+Y.length) (Fp r.buses.length (0+X.length) Y (Fp r.buses.length 0 X Te)) (by omega) (by omega)
    rw [a3.1,a3.2.1,a3.2.2,a2.1,a2.2.1,a2.2.2,a1.1,a1.2.1,a1.2.2]
    simp only [Nat.zero_add,l1,l2,l3,Nat.sub_self,List.take_zero,List.nil_append,Am.mk.injEq]
    rw [show r.buses.length+r.buses.length-2*r.buses.length=0 by omega]
    refine⟨?_,?_,?_⟩
    · conv=>lhs; rw [← l1]
      rw [List.take_left']
      rfl
    · conv=>lhs; rw [← l2]
      rw [List.take_left']
      rfl
    · rw [List.take_zero,List.nil_append]
      conv=>lhs; rw [← l3]
      rw [List.take_left']
      simp
  · unfold EH
    rw [OV]
    show Bb.mk (0+Ji r.buses.length 0 q) (0+Jj r.buses.length 0 q)=_
    rw [Int.zero_add,Int.zero_add]
    conv=>lhs; rw [e0]
    rw [Jk,Jl,Jk,Jl]
    have a1:=N0 r.buses.length (q.take r.buses.length) 0 (by omega)
    have a2:=N1 r.buses.length ((q.drop r.buses.length).take r.buses.length) (0+(q.take r.buses.length).length) (by omega) (by omega)
    have a3:=MA r.buses.length (q.drop (2*r.buses.length)) (0+(q.take r.buses.length).length+((q.drop r.buses.length).take r.buses.length).length) (by omega)
    rw [a1.1,a1.2,a2.1,a2.2,a3.1,a3.2]
    unfold FL Gp Da
    simp only []
    rw [hbits]
    simp only [Int.add_zero,Bb.mk.injEq]
    exact⟨by omega,trivial⟩
theorem GQ (r:Af):∀ (n k:Nat)(q:List Int),q∈Ib r n k↔q.length=n∧∀ (i:Nat)(h:i<q.length),q[i]∈GO r (k+i)
  | 0,k,q=>by
    rw [Ib,List.mem_singleton]
    constructor
    · rintro rfl; exact⟨rfl,fun i h=>absurd h (Nat.not_lt_zero _)⟩
    · rintro⟨h,_⟩; exact List.length_eq_zero_iff.1 h
  | n+1,k,q=>by
    rw [Ib,List.mem_flatMap]
    constructor
    · rintro⟨v,hv,hq⟩
      obtain⟨q',hq',rfl⟩:=List.mem_map.1 hq
      have IH:=(GQ r n (k+1) q').1 hq'
      refine⟨by rw [List.length_cons,IH.1],fun i h=>?_⟩
      cases i with
      | zero=>exact hv
      | succ i =>
        have:=IH.2 i (by simpa using h)
        rw [show k+(i+1)=k+1+i by omega]
        simpa using this
    · rintro⟨h1,h2⟩
      cases q with
      | nil=>simp at h1
      | cons v q =>
        refine⟨v,h2 0 (by simp),List.mem_map.2 ⟨q,(GQ r n (k+1) q).2 ⟨by simpa using h1,fun i h=>?_⟩,rfl⟩⟩
        have:=h2 (i+1) (by simpa using h)
        rw [show k+(i+1)=k+1+i by omega] at this
        simpa using this
theorem Hl (r:Af) (b:Cy) (t:Int) (h0:0≤b.stop):t∈ER r b↔Ft r b t=true:=by
  unfold ER
  rw [List.mem_filter,List.mem_map]
  constructor
  · exact fun h=>h.2
  · intro h
    refine⟨?_,h⟩
    have h2:=h
    unfold Ft at h2
    rw [Bool.or_eq_true,decide_eq_true_eq,decide_eq_true_eq] at h2
    exact⟨(t+1).toNat,by rw [List.mem_range]; omega,by omega⟩
theorem Q6 (r:Af) (k:Nat):(GO r k).Pairwise (· < ·):=by
  unfold GO
  split
  · decide
  · split
    · unfold ER
      refine List.Pairwise.filter _ ?_
      rw [List.pairwise_map]
      exact List.pairwise_lt_range.imp fun h=>by omega
    · decide
theorem MC (r:Af):∀ n k:Nat,(Ib r n k).Pairwise fun a b=>Lg a b=true
  | 0,_=>List.pairwise_singleton _ _
  | n+1,k=>by
    rw [Ib,List.pairwise_flatMap]
    refine⟨fun v _=>?_,(Q6 r k).imp fun {a b} hab=>?_⟩
    · rw [List.pairwise_map]
      exact(MC r n (k+1)).imp fun h=>by rw [Lg,if_pos rfl]; exact h
    · intro x hx y hy
      obtain⟨x',_,rfl⟩:=List.mem_map.1 hx
      obtain⟨y',_,rfl⟩:=List.mem_map.1 hy
      rw [Lg,if_neg (by omega)]
      exact decide_eq_true hab
theorem Fu {r:Af} {q:List Int} (h:q∈BQ r):q.length=2*r.buses.length+r.spares.length∧∀ v∈q.drop (2*r.buses.length),v=0∨v=1:=by
  obtain⟨h1,h2⟩:=(GQ r _ 0 q).1 h
  refine⟨h1,fun v hv=>?_⟩
  obtain⟨i,hi,rfl⟩:=List.mem_iff_getElem.1 hv
  rw [List.length_drop] at hi
  have:=h2 (2*r.buses.length+i) (by omega)
  unfold GO at this
  rw [if_neg (by omega),if_neg (by omega)] at this
  rw [List.getElem_drop]
  simpa using this
theorem Ka {r:Af} (V:Bg r) {q:List Int} (h:q∈BQ r):Eh r (Da r q)=true:=by
  have h01:=Fu h
  obtain⟨h1,h2⟩:=(GQ r _ 0 q).1 h
  have l1:(q.take r.buses.length).length=r.buses.length:=by rw [List.length_take]; omega
  have l2:((q.drop r.buses.length).take r.buses.length).length=r.buses.length:=by rw [List.length_take,List.length_drop]; omega
  unfold Eh Da
  simp only [Bool.and_eq_true,decide_eq_true_eq,List.all_eq_true,List.mem_range]
  refine⟨⟨l1,l2,by rw [List.length_map,List.length_drop]; omega⟩,fun i hi=>?_⟩
  unfold Kt
  simp only []
  rw [Bp _ _ (by omega),Bp _ _ (by omega),List.getElem_take,List.getElem_take,List.getElem_drop]
  have a1:=h2 i (by omega)
  have a2:=h2 (r.buses.length+i) (by omega)
  unfold GO at a1 a2
  rw [if_pos (by omega)] at a1
  rw [if_neg (by omega),if_pos (by omega),show 0+(r.buses.length+i)-r.buses.length=i by omega,Hl r _ _ (by rw [Bp _ _ hi]; exact(V.buses _ (List.getElem_mem hi)).1)] at a2
  rw [Bool.and_eq_true]
  refine⟨decide_eq_true ?_,a2⟩
  simp only [List.mem_cons,List.not_mem_nil,or_false] at a1
  omega
theorem GF {r:Af} (V:Bg r) {a:Am} (h:Eh r a=true):enc a∈BQ r∧Da r (enc a)=a:=by
  have A:=E9 h
  have l1:=A.holds
  have l2:=A.turns
  have l3:=A.spares
  have hlen:(enc a).length=2*r.buses.length+r.spares.length:=by unfold enc; rw [List.length_append,List.length_append,List.length_map]; omega
  constructor
  · refine(GQ r _ 0 _).2 ⟨hlen,fun i hi=>?_⟩
    rw [Nat.zero_add]
    have hi':i<(a.holds++a.turns++a.spares.map OA).length:=hi
    unfold GO
    by_cases c1:i<r.buses.length
    · rw [if_pos c1]
      have:(enc a)[i]'hi=a.holds[i]:=by
        show(a.holds++a.turns++a.spares.map OA)[i]'hi' = _
        rw [List.getElem_append_left (by rw [List.length_append]; omega),List.getElem_append_left (by omega)]
      rw [this]
      have:=A.hold i c1
      rw [Bp _ _ (by omega)] at this
      simp only [List.mem_cons,List.not_mem_nil,or_false]
      omega
    · rw [if_neg c1]
      by_cases c2:i<2*r.buses.length
      · rw [if_pos c2]
        have hib:i-r.buses.length<r.buses.length:=by omega
        rw [Hl r _ _ (by rw [Bp _ _ hib]; exact(V.buses _ (List.getElem_mem hib)).1)]
        have:(enc a)[i]'hi=a.turns[i-r.buses.length]!:=by
          rw [Bp _ _ (by omega)]
          show(a.holds++a.turns++a.spares.map OA)[i]'hi' = _
          rw [List.getElem_append_left (by rw [List.length_append]; omega),List.getElem_append_right (by omega)]
          congr 1; omega
        rw [this]
        have:=A.turn _ hib
        unfold Ft
        rw [Bool.or_eq_true,decide_eq_true_eq,decide_eq_true_eq]
        exact this
      · rw [if_neg c2]
        have:(enc a)[i]'hi=OA (a.spares[i-2*r.buses.length]'(by rw [l3]; omega)):=by
          show(a.holds++a.turns++a.spares.map OA)[i]'hi' = _
          rw [List.getElem_append_right (by rw [List.length_append]; omega),List.getElem_map]
          congr 2; rw [List.length_append]; omega
        rw [this]
        unfold OA
        split <;> simp
  · unfold Da enc
    have e1:(a.holds++a.turns++a.spares.map OA).take r.buses.length=a.holds:=by
      rw [List.append_assoc,← l1,List.take_left']; rfl
    have e2:(a.holds++a.turns++a.spares.map OA).drop r.buses.length=a.turns++a.spares.map OA:=by
      rw [List.append_assoc,← l1,List.drop_left']; rfl
    have e3:(a.holds++a.turns++a.spares.map OA).drop (2*r.buses.length)=a.spares.map OA:=by
      rw [List.drop_left']; rw [List.length_append]; omega
    rw [e1,e2,e3]
    have e4:(a.turns++a.spares.map OA).take r.buses.length=a.turns:=by
      rw [← l2,List.take_left']; rfl
    have e5:((a.spares.map OA).map fun v=>v == 1)=a.spares:=by
      rw [List.map_map]
      conv=>rhs; rw [← List.map_id a.spares]
      exact List.map_congr_left fun b _=>by cases b <;> rfl
    rw [e4,e5]
end Go.Proofs.Ytokchpjijlebiaa
namespace Go.Proofs.Ytokchpjijlebiaa
open Go Go.RowKit
theorem Ie {α:Type} (f:α→Int):∀ (l:List α)(b g:Int),l.foldl (fun b m=>max b (f m)) b≤g↔b≤g∧∀ m∈l,f m≤g
  | [],b,g=>by simp
  | m::l,b,g=>by
    rw [List.foldl_cons,Ie f l]
    simp only [List.mem_cons,forall_eq_or_imp]
    constructor
    · rintro⟨h1,h2⟩; exact⟨by omega,by omega,h2⟩
    · rintro⟨h1,h2,h3⟩; exact⟨by omega,h3⟩
theorem DL {m e:Int}:∀ {l:List Rg} {to_:Int},e≤Ca m to_ l↔e≤to_∧∀ p∈l,p.lo>m→e≤p.hi
  | [],to_=>by simp [Ca]
  | p::r,to_=>by
    show e≤Ca m (if p.lo>m then min to_ p.hi else to_) r↔_
    rw [DL]
    simp only [List.mem_cons,forall_eq_or_imp]
    by_cases h:p.lo>m
    · simp only [h,if_true,true_implies]
      constructor
      · rintro⟨h1,h2⟩; exact⟨by omega,by omega,h2⟩
      · rintro⟨h1,h2,h3⟩; exact⟨by omega,h3⟩
    · simp only [h,if_false,false_implies,true_and]
theorem Q7 {fr to_ g:Int} {l:List Rg}:WR fr to_ l≤g↔0≤g∧∀ m∈E8 fr to_ l,Ca m to_ l-m≤g:=Ie _ _ _ _
theorem Kb (fr to_:Int) (l:List Rg):0≤WR fr to_ l:=(Q7.1 (Int.le_refl _)).1
theorem Ig (m to_:Int) (l:List Rg):Ca m to_ l≤to_:=(DL.1 (Int.le_refl _)).1
theorem Tm {fr to_:Int} {l:List Rg} (h:fr≤to_):WR fr to_ l≤to_-fr:=Q7.2 ⟨by omega,fun m hm=>by
  have:=Hk h hm
  have:=Ig m to_ l
  omega⟩
theorem N4 {fr to_ m:Int} (h0:fr≤m) (h1:m≤to_):∀ l:List Rg,∃ x∈E8 fr to_ l,x≤m∧fr≤x∧∀ p∈l,p.lo≤m→p.lo≤x
  | []=>⟨fr,by simp [E8],h0,Int.le_refl _,by simp⟩
  | p::r=>by
    obtain⟨x,hx,h2,h3,h4⟩:=N4 h0 h1 r
    have sub:∀ z∈E8 fr to_ r,z∈E8 fr to_ (p::r):=fun z hz=>by
      unfold E8 at hz ⊢
      rcases List.mem_cons.1 hz with rfl | hz
      · simp
      · obtain⟨q,hq,rfl⟩:=List.mem_map.1 hz
        rw [List.mem_filter] at hq
        exact List.mem_cons_of_mem _ (List.mem_map_of_mem (List.mem_filter.2 ⟨List.mem_cons_of_mem _ hq.1,hq.2⟩))
    by_cases hp:x<p.lo∧p.lo≤m
    · refine⟨p.lo,?_,hp.2,by omega,fun q hq hqm=>?_⟩
      · unfold E8
        refine List.mem_cons_of_mem _ (List.mem_map_of_mem (List.mem_filter.2 ⟨by simp,?_⟩))
        rw [Bool.and_eq_true,decide_eq_true_eq,decide_eq_true_eq]
        omega
      · rcases List.mem_cons.1 hq with rfl | hq
        · exact Int.le_refl _
        · have:=h4 q hq hqm; omega
    · refine⟨x,sub x hx,h2,h3,fun q hq hqm=>?_⟩
      rcases List.mem_cons.1 hq with rfl | hq
      · omega
      · exact h4 q hq hqm
theorem Tn {fr to_ m:Int} {l:List Rg} (h0:fr≤m) (h1:m≤to_):Ca m to_ l-m≤WR fr to_ l:=by
  obtain⟨x,hx,h2,h3,h4⟩:=N4 h0 h1 l
  have:=(Q7.1 (Int.le_refl (WR fr to_ l))).2 x hx
  have:Ca m to_ l≤Ca x to_ l:=DL.2 ⟨Ig _ _ _,fun p hp hpx=>by
    rcases Int.lt_or_le m p.lo with h | h
    · exact(DL.1 (Int.le_refl (Ca m to_ l))).2 p hp h
    · have:=h4 p hp h; omega⟩
  omega
def Vb (l l':List Rg):Prop:=∀ p∈l,∃ p'∈l',p.lo≤p'.lo∧p'.hi≤p.hi
theorem Vb.sub {l l':List Rg} (h:∀ p∈l,p∈l'):Vb l l':=fun p hp=>⟨p,h p hp,Int.le_refl _,Int.le_refl _⟩
theorem U8 {fr to_ fr' to':Int} {l l':List Rg} (h:Vb l l') (h0:fr≤fr') (h1:fr'≤to') (h2:to'≤to_):WR fr' to' l'≤WR fr to_ l:=Q7.2 ⟨Kb _ _ _,fun m hm=>by
  have hb:=Hk h1 hm
  have:=Tn (fr:=fr) (to_:=to_) (m:=m) (l:=l) (by omega) (by omega)
  have:Ca m to' l'≤Ca m to_ l:=DL.2 ⟨Int.le_trans (Ig _ _ _) h2,fun p hp hpm=>by
    obtain⟨p',hp',h3,h4⟩:=h p hp
    have:=(DL.1 (Int.le_refl (Ca m to' l'))).2 p' hp' (by omega)
    omega⟩
  omega⟩
def maxL:List Int→Int
  | []=>0
  | x::xs=>xs.foldl (fun b x=>max b x) x
def maxW (r:Af) (a:Am):Int:=maxL (C0 r a)
theorem PL {l:List Int} {g:Int} (h:l≠[]):maxL l≤g↔∀ w∈l,w≤g:=by
  cases l with
  | nil=>exact absurd rfl h
  | cons x xs =>
    unfold maxL
    rw [Ie (fun x=>x)]
    simp
theorem Gb (r:Af) (a:Am):C0 r a≠[]:=by
  unfold C0
  rw [List.range_succ]; simp
theorem Lh {r:Af} {a:Am} {g:Int}:maxW r a≤g↔∀ w∈C0 r a,w≤g:=PL (Gb r a)
theorem Nd {r:Af} {a:Am} {w:Int} (h:w∈C0 r a):0≤w:=by
  obtain⟨k,_,rfl⟩:=List.mem_map.1 h
  exact Kb _ _ _
theorem Ih {r:Af} (V:Bg r) (a:Am):0≤maxW r a∧maxW r a≤r.to_-r.fr:=by
  constructor
  · have h:=Gb r a
    obtain⟨w,hw⟩:=List.exists_mem_of_ne_nil _ h
    exact Int.le_trans (Nd hw) (Lh.1 (Int.le_refl _) w hw)
  · refine Lh.2 fun w hw=>?_
    obtain⟨k,_,rfl⟩:=List.mem_map.1 hw
    exact Tm V.looked.2.1
theorem OW (x:List Int) (hx:x.length≤100):∀ (n i:Nat)(b:Int),x.length<n+i→i≤x.length→B6 n x (i:Int) b=some ((x.drop i).foldl (fun b x=>max b x) b)
  | 0,i,b,h,hi=>by omega
  | n+1,i,b,h,hi=>by
    rw [B6,Bu]
    by_cases hxi:i<x.length
    · simp only [hxi,decide_true,cond_true]
      rw [AC _ _ hxi,Option.bind_some,Cw i (by omega),OW x hx n (i+1) _ (by omega) (by omega),Az hxi,List.foldl_cons]
      rw [show(if x[i]>b then x[i] else b)=max b x[i] by omega]
    · have:i=x.length:=by omega
      simp [this]
theorem OX (x:List Int) (hx:x.length≤100):∀ (n i:Nat)(b:Int),x.length<n+i→i≤x.length→Bh n x (i:Int) b=some ((x.drop i).foldl (fun b x=>min b x) b)
  | 0,i,b,h,hi=>by omega
  | n+1,i,b,h,hi=>by
    rw [Bh,Bu]
    by_cases hxi:i<x.length
    · simp only [hxi,decide_true,cond_true]
      rw [AC _ _ hxi,Option.bind_some,Cw i (by omega),OX x hx n (i+1) _ (by omega) (by omega),Az hxi,List.foldl_cons]
      rw [show(if x[i]<b then x[i] else b)=min b x[i] by omega]
    · have:i=x.length:=by omega
      simp [this]
theorem SO (n:Nat) (l:List Int) (hn:101<n) (h:l≠[]) (hl:l.length≤100):Ew n l=some (maxL l):=by
  cases l with
  | nil=>exact absurd rfl h
  | cons x xs =>
    unfold Ew DU
    have e:=OW (x::xs) hl n 1 x (by omega) (by simp)
    rw [decide_eq_false (by rw [List.length_cons]; omega),cond_false]
    show Option.bind (Option.bind (some x) _) _=_
    rw [Option.bind_some]
    rw [show((1:Nat):Int)=1 from rfl] at e
    rw [e]
    rfl
theorem Li (n:Nat) (a b:Int) (hn:101<n):BI n [a,b]=some (min a b):=by
  unfold BI CQ
  have e:=OX [a,b] (by simp) n 1 a (by simp; omega) (by simp)
  rw [decide_eq_false (by simp),cond_false]
  show Option.bind (Option.bind (some a) _) _=_
  rw [Option.bind_some]
  rw [show((1:Nat):Int)=1 from rfl] at e
  rw [e]
  rfl
def GR (r:Af) (a:Am) (g:Int):Bool:=(C0 r a).all fun w=>decide (w≤g)
theorem KG {r:Af} {a:Am} {g:Int}:GR r a g=true↔maxW r a≤g:=by
  rw [Lh]
  unfold GR
  simp [List.all_eq_true]
theorem MD (r:Af) (most:Int) (sp:List (List (Int×Rg))) (hs:sp.length≤50) (hl:∀ l∈sp,l.length≤20∧∀ p∈l.map Prod.snd,p.lo≤p.hi) (h0:0≤r.fr) (h1:r.fr≤r.to_) (h2:r.to_≤2000):∀ (n i:Nat),sp.length+60<n+i→i≤sp.length →
    Bt n r most (sp.map EY.mk) (i:Int)=some ((sp.drop i).all fun l=>decide (WR r.fr r.to_ (l.map Prod.snd)≤most))
  | 0,i,h,hi=>by omega
  | n+1,i,h,hi=>by
    rw [Bt,Bu,List.length_map]
    by_cases hx:i<sp.length
    · simp only [hx,decide_true,cond_true]
      rw [AC _ i (by simpa using hx)]
      simp only [Option.bind_some,List.getElem_map]
      have:=hl _ (List.getElem_mem hx)
      rw [OR n r _ (by omega) this.1 this.2 h0 h1 h2]
      simp only [Option.bind_some]
      rw [Az hx,List.all_cons]
      by_cases hw:WR r.fr r.to_ (sp[i].map Prod.snd)≤most
      · rw [decide_eq_false (show ¬ WR r.fr r.to_ (sp[i].map Prod.snd)>most by omega),cond_false,decide_eq_true hw,Bool.true_and]
        rw [Cw i (by omega),MD r most sp hs hl h0 h1 h2 n (i+1) (by omega) (by omega)]
      · rw [decide_eq_true (show WR r.fr r.to_ (sp[i].map Prod.snd)>most by omega),cond_true,decide_eq_false hw,Bool.false_and]
    · have:i=sp.length:=by omega
      simp [this]
theorem To (n:Nat) (r:Af) (d:Ap) (most:Int) (V:Bg r) (hA:Eh r (HL r d)=true) (hn:110≤n) (hn2:n≤900):C9 n r d most=some (GR r (HL r d) most):=by
  have A:=E9 hA
  have:=V.nl
  have:=V.nb
  have:=V.ns
  have:=V.looked
  unfold C9
  rw [H2 n r d V.nb V.ns,Option.bind_some,Q3 n r _ V A (by omega) hn2,Option.bind_some]
  have e:=MD r most ((List.range (r.legs.length+1)).map fun(k:Nat)=>Ci ((r.legs.length:Int)+1) 40 k 0 (G0 r (HL r d))) (by simp; omega) (fun l hl=>by
    obtain⟨k,_,rfl⟩:=List.mem_map.1 hl
    refine⟨?_,by rw [CG]; exact OT V A k⟩
    have h1:(Ci ((r.legs.length:Int)+1) 40 k 0 (G0 r (HL r d))).length=((Ci ((r.legs.length:Int)+1) 40 k 0 (G0 r (HL r d))).map Prod.snd).length:=by simp
    rw [h1,CG]
    refine Nat.le_trans (List.length_filterMap_le _ _) ?_
    rw [← JZ,List.length_zip]
    have:=G9 r (HL r d) Rg.lo
    omega) (by omega) (by omega) (by omega) n 0 (by simp; omega) (by omega)
  rw [List.map_map,Int.natCast_zero,List.drop_zero,List.all_map] at e
  rw [show(EY.mk ∘ fun(k:Nat)=>Ci ((r.legs.length:Int)+1) 40 k 0 (G0 r (HL r d)))=fun(k:Nat)=>EY.mk (Ci ((r.legs.length:Int)+1) 40 k 0 (G0 r (HL r d))) from rfl] at e
  rw [e,Option.bind_some]
  unfold GR C0
  rw [List.all_map]
  simp only [Function.comp_def,CG,AX]
def Kc (r:Af) (x y:List Int):Bool:=Cx (Da r x) (Da r y)
def ME (r:Af) (x y:List Int):Bool:=decide (FL (Da r x)<FL (Da r y)) || (decide (FL (Da r x)=FL (Da r y)) && decide (Gp (Da r x)<Gp (Da r y)))
def Kv (r:Af) (o:Option (List Int)) (q:List Int):Option (List Int):=match o with
  | none=>if GR r (Da r q) r.gap then some q else none
  | some y=>if ME r q y && GR r (Da r q) r.gap then some q else some y
def OB (r:Af):Option (List Int)→Bool×Bb×Ap
  | none=>(false,Te.2,Te.1)
  | some q=>(true,(EH r q).2,(EH r q).1)
theorem Ua (c l:Bb):(bif ((c.number == l.number) && ((c.sum == l.sum) && true)) then some true else(bif decide (c.number>l.number) then some true else(bif (c.number == l.number) then some (decide (c.sum>l.sum)) else some false)))=some (!(decide (c.number<l.number) || (decide (c.number=l.number) && decide (c.sum<l.sum)))):=by
  by_cases e1:c.number=l.number
  · rw [decide_eq_false (show ¬ c.number>l.number by omega),decide_eq_false (show ¬ c.number<l.number by omega),decide_eq_true e1,beq_iff_eq.2 e1]
    simp only [Bool.true_and,Bool.and_true,Bool.false_or,cond_false,cond_true]
    by_cases e2:c.sum=l.sum
    · rw [beq_iff_eq.2 e2,decide_eq_false (show ¬ c.sum<l.sum by omega)]; rfl
    · rw [beq_eq_false_iff_ne.2 e2,cond_false]
      congr 1
      by_cases e3:c.sum<l.sum
      · rw [decide_eq_true e3,decide_eq_false (by omega)]; rfl
      · rw [decide_eq_false e3,decide_eq_true (by omega)]; rfl
  · rw [beq_eq_false_iff_ne.2 e1,decide_eq_false e1]
    simp only [Bool.false_and,Bool.or_false,cond_false]
    by_cases e3:c.number<l.number
    · rw [decide_eq_true e3,decide_eq_false (by omega)]; rfl
    · rw [decide_eq_false e3,decide_eq_true (by omega)]; rfl
theorem SP (n:Nat) (r:Af) (V:Bg r) (hn:110≤n) (hn2:n≤900) (o:Option (List Int)) (ho:∀ y,o=some y→y∈BQ r) (q:List Int) (hq:q∈BQ r) :
    Cg n (EH r q).1 (EH r q).2 (OB r o).1 (OB r o).2.1 (OB r o).2.2 r=some (OB r (Kv r o q)):=by
  have d1:=HM r q V.nb V.ns (Fu hq).1 (Fu hq).2
  have hk:=To n r (EH r q).1 r.gap V (by rw [d1.1]; exact Ka V hq) hn hn2
  rw [d1.1] at hk
  unfold Cg
  cases o with
  | none =>
    simp only [OB,Kv,cond_false,Option.bind_some]
    rw [hk,Option.bind_some]
    cases GR r (Da r q) r.gap <;> rfl
  | some y =>
    have hy:=ho y rfl
    have d2:=HM r y V.nb V.ns (Fu hy).1 (Fu hy).2
    rw [show OB r (some y)=(true,(EH r y).2,(EH r y).1) from rfl]
    simp only [cond_true]
    rw [Ua,Option.bind_some,hk,Option.bind_some]
    have hl:(decide ((EH r q).2.number<(EH r y).2.number) || (decide ((EH r q).2.number=(EH r y).2.number) && decide ((EH r q).2.sum<(EH r y).2.sum)))=ME r q y:=by
      unfold ME
      rw [d1.2.1,d2.2.1]
    rw [hl]
    unfold Kv
    simp only []
    cases ME r q y <;> cases GR r (Da r q) r.gap <;> rfl
theorem OY (n:Nat) (r:Af) (V:Bg r) (hn:110≤n) (hn2:n≤900):∀ (l:List (List Int))(o:Option (List Int)),(∀ y,o=some y→y∈BQ r)→(∀ q∈l,q∈BQ r) →
    l.foldlM (fun s q=>Cg n (EH r q).1 (EH r q).2 s.1 s.2.1 s.2.2 r) (OB r o)=some (OB r (l.foldl (Kv r) o))
  | [],o,_,_=>rfl
  | q::l,o,ho,hl=>by
    rw [List.foldlM_cons,SP n r V hn hn2 o ho q (hl q (by simp)),List.foldl_cons]
    refine OY n r V hn hn2 l _ (fun y hy=>?_) fun q' hq'=>hl q' (List.mem_cons_of_mem _ hq')
    unfold Kv at hy
    cases o with
    | none =>
      simp only [] at hy
      split at hy
      · cases hy; exact hl _ (by simp)
      · cases hy
    | some z =>
      simp only [] at hy
      split at hy
      · cases hy; exact hl _ (by simp)
      · cases hy; exact ho _ rfl
def Uw (r:Af) (seen:List (List Int)):Option (List Int)→Prop
  | none=>∀ x∈seen,GR r (Da r x) r.gap=false
  | some y=>y∈seen∧GR r (Da r y) r.gap=true∧∀ x∈seen,GR r (Da r x) r.gap=true→Kc r x y=false
theorem OZ (r:Af) (he:∀ x∈BQ r,enc (Da r x)=x):∀ (l seen:List (List Int))(o:Option (List Int)),(seen++l).Pairwise (fun a b=>Lg a b=true)→(∀ x∈seen++l,x∈BQ r)→Uw r seen o→Uw r (seen++l) (l.foldl (Kv r) o)
  | [],seen,o,_,_,h=>by rw [List.append_nil]; exact h
  | q::l,seen,o,hp,hm,h=>by
    rw [List.foldl_cons]
    have e:seen++q::l=(seen++[q])++l:=by simp
    rw [e] at hp hm ⊢
    refine OZ r he l (seen++[q]) _ hp hm ?_
    have hq:q∈BQ r:=hm q (by simp)
    have hlt:∀ s∈seen,Lg s q=true:=fun s hs=>by
      rw [List.pairwise_append,List.pairwise_append] at hp
      exact hp.1.2.2 s hs q (by simp)
    have hirr:Kc r q q=false:=by unfold Kc Cx; simp [Ic]
    cases o with
    | none =>
      unfold Kv
      simp only []
      split
      · rename_i hk
        refine⟨by simp,hk,fun x hx hkx=>?_⟩
        rcases List.mem_append.1 hx with hx | hx
        · rw [h x hx] at hkx; cases hkx
        · simp at hx; subst hx; exact hirr
      · rename_i hk
        intro x hx
        rcases List.mem_append.1 hx with hx | hx
        · exact h x hx
        · simp at hx; subst hx; simpa using hk
    | some y =>
      obtain⟨hy,hyk,hyb⟩:=h
      have hya:y∈BQ r:=hm y (List.mem_append_left _ (List.mem_append_left _ hy))
      unfold Kv
      simp only []
      split
      · rename_i hk
        rw [Bool.and_eq_true] at hk
        refine⟨by simp,hk.2,fun x hx hkx=>?_⟩
        rcases List.mem_append.1 hx with hx | hx
        · have h1:=hyb x hx hkx
          have h2:=hk.1
          unfold ME at h2
          rw [Bool.or_eq_true,Bool.and_eq_true,decide_eq_true_eq,decide_eq_true_eq,decide_eq_true_eq] at h2
          unfold Kc Cx at h1 ⊢
          split at h1
          · rename_i n1
            split at h1
            · rename_i s1
              rcases h2 with h2 | h2
              · rw [if_neg (by omega)]; exact decide_eq_false (by omega)
              · rw [if_pos (by omega),if_neg (by omega)]; exact decide_eq_false (by omega)
            · rename_i s1
              have:=of_decide_eq_false h1
              rcases h2 with h2 | h2
              · rw [if_neg (by omega)]; exact decide_eq_false (by omega)
              · rw [if_pos (by omega),if_neg (by omega)]; exact decide_eq_false (by omega)
          · rename_i n1
            have:=of_decide_eq_false h1
            rw [if_neg (by omega)]; exact decide_eq_false (by omega)
        · simp at hx; subst hx; exact hirr
      · rename_i hk
        refine⟨List.mem_append_left _ hy,hyk,fun x hx hkx=>?_⟩
        rcases List.mem_append.1 hx with hx | hx
        · exact hyb x hx hkx
        · simp at hx; subst hx
          have h2:ME r x y=false:=by
            cases h3:ME r x y with
            | false=>rfl
            | true=>rw [h3,hkx] at hk; exact absurd rfl hk
          unfold ME at h2
          rw [Bool.or_eq_false_iff,Bool.and_eq_false_iff,decide_eq_false_iff_not,decide_eq_false_iff_not,decide_eq_false_iff_not] at h2
          unfold Kc Cx
          split
          · split
            · rw [he x hq,he y hya]; exact OU (hlt y hy)
            · exact decide_eq_false (by omega)
          · exact decide_eq_false (by omega)
theorem SQ (n:Nat) (r:Af) (hF:EQ r=0) (hn:110≤n) (hn2:n≤900) :
    (∃ b,CD n r=some (b,0)∧Eh r b=true∧maxW r b≤r.gap∧∀ a,Eh r a=true→maxW r a≤r.gap→Cx a b=false) ∨
    (CD n r=some (⟨[],[],[]⟩,9)∧∀ a,Eh r a=true→r.gap<maxW r a):=by
  have V:=Nu hF
  have:=V.nl
  have:=V.nb
  have:=V.ns
  unfold CD
  rw [Lc n r (by omega) (by omega) (by omega) (by omega),hF,Option.bind_some]
  simp only [bne_self_eq_false,cond_false]
  have e:B2 n (fun s y0 y1=>Cg n y0 y1 s.1 s.2.1 s.2.2 r) r (false,Bb.mk 0 0,(Ap.mk (AI.mk 0 0 0 0) (AI.mk 0 0 0 0) (AT.mk false false)))=some (OB r ((BQ r).foldl (Kv r) none)) :=
    (Q5 _ n r _ V.nb V.ns V.nl (by omega)).trans (OY n r V hn hn2 (BQ r) none (fun y h=>by cases h) fun q h=>h)
  rw [e,Option.bind_some]
  have hw:∀ x∈BQ r,HL r (EH r x).1=Da r x∧(EH r x).2=⟨FL (Da r x),Gp (Da r x)⟩∧enc (Da r x)=x:=fun x hx=>HM r x V.nb V.ns (Fu hx).1 (Fu hx).2
  have hP:=OZ r (fun x hx=>(hw x hx).2.2) (BQ r) [] none (MC r _ 0) (fun x h=>h) (fun x h=>by cases h)
  rw [List.nil_append] at hP
  cases ho:(BQ r).foldl (Kv r) none with
  | none =>
    rw [ho] at hP
    refine .inr ⟨rfl,fun a ha=>?_⟩
    obtain⟨h1,h2⟩:=GF V ha
    have h3:=hP _ h1
    rw [h2] at h3
    rcases Int.lt_or_le r.gap (maxW r a) with h | h
    · exact h
    · rw [KG.2 h] at h3; cases h3
  | some y =>
    rw [ho] at hP
    obtain⟨hy,hyk,hyb⟩:=hP
    refine .inl ⟨Da r y,?_,Ka V hy,KG.1 hyk,fun a ha hk=>?_⟩
    · simp only [OB,Bool.not_true,cond_false]
      rw [H2 n r _ V.nb V.ns,(hw y hy).1]
      rfl
    · obtain⟨h1,h2⟩:=GF V ha
      have h3:=hyb _ h1 (by rw [h2]; exact KG.2 hk)
      unfold Kc at h3
      rw [h2] at h3
      exact h3
theorem Me {K α:Type} [DecidableEq K] (k j:K) (x:α):∀ l:List (K×α),BC (EJ l k x) j=if k=j then some x else BC l j
  | []=>by simp [EJ,BC]
  | p::r=>by
    rw [EJ]
    by_cases h:p.1=k
    · rw [if_pos h,BC,BC]
      by_cases hk:k=j
      · simp [hk]
      · have : ¬ p.1=j:=by rw [h]; exact hk
        simp [hk,this]
    · rw [if_neg h,BC,BC,Me k j x r]
      by_cases hp:p.1=j
      · have : ¬ k=j:=fun e=>h (by rw [hp,e])
        simp [hp,this]
      · simp [hp]
def PM (r:Af) (l:List (Ap×Int)):Prop:=∀ d v,BC l d=some v→v=maxW r (HL r d)
theorem R5 (n:Nat) (r:Af) (V:Bg r) (hn:110≤n) (hn2:n≤900) (tried:List (Ap×Int)) (ht:PM r tried) (b:Int) (q:List Int) (hq:q∈BQ r) :
    ∃ t',PM r t'∧BH n (EH r q).1 (EH r q).2 b tried r=some (t',min b (maxW r (Da r q))):=by
  have d1:=HM r q V.nb V.ns (Fu hq).1 (Fu hq).2
  have hA:=Ka V hq
  have:=V.nl
  unfold BH
  rw [Option.bind_some]
  unfold Gg
  cases hl:BC tried (EH r q).1 with
  | some v =>
    have hv:=ht _ _ hl
    rw [d1.1] at hv
    refine⟨tried,ht,?_⟩
    simp only [Bool.not_true,cond_false,Option.bind_some]
    rw [Li n b v (by omega),hv]
    rfl
  | none =>
    refine⟨EJ tried (EH r q).1 (maxW r (Da r q)),fun d v h=>?_,?_⟩
    · rw [Me] at h
      split at h
      · rename_i hd
        cases h
        rw [← hd,d1.1]
      · exact ht d v h
    · simp only [Bool.not_false,cond_true]
      rw [H2 n r _ V.nb V.ns,Option.bind_some,d1.1,Tj n r _ V (E9 hA) (by omega) hn2,Option.bind_some,SO n _ (by omega) (Gb r _) (by simp [C0]; omega),Option.bind_some]
      have:BC (EJ tried (EH r q).1 (maxL (C0 r (Da r q)))) (EH r q).1=some (maxL (C0 r (Da r q))):=by rw [Me,if_pos rfl]
      simp only [this,Option.bind_some]
      rw [Li n _ _ (by omega)]
      rfl
theorem N5 (n:Nat) (r:Af) (V:Bg r) (hn:110≤n) (hn2:n≤900):∀ (l:List (List Int))(tried:List (Ap×Int))(b:Int),PM r tried→(∀ q∈l,q∈BQ r) →
    ∃ t',l.foldlM (fun s q=>BH n (EH r q).1 (EH r q).2 s.2 s.1 r) (tried,b)=some (t',l.foldl (fun b q=>min b (maxW r (Da r q))) b)
  | [],tried,b,_,_=>⟨tried,rfl⟩
  | q::l,tried,b,ht,hl=>by
    obtain⟨t1,h1,h2⟩:=R5 n r V hn hn2 tried ht b q (hl q (by simp))
    obtain⟨t2,h3⟩:=N5 n r V hn hn2 l t1 (min b (maxW r (Da r q))) h1 fun q' h'=>hl q' (List.mem_cons_of_mem _ h')
    refine⟨t2,?_⟩
    rw [List.foldlM_cons]
    show Option.bind (BH n (EH r q).1 (EH r q).2 b tried r) _=_
    rw [h2]
    exact h3
theorem Ii {α:Type} (f:α→Int):∀ (l:List α)(b g:Int),g≤l.foldl (fun b m=>min b (f m)) b↔g≤b∧∀ m∈l,g≤f m
  | [],b,g=>by simp
  | m::l,b,g=>by
    rw [List.foldl_cons,Ii f l]
    simp only [List.mem_cons,forall_eq_or_imp]
    constructor
    · rintro⟨h1,h2⟩; exact⟨by omega,by omega,h2⟩
    · rintro⟨h1,h2,h3⟩; exact⟨by omega,h3⟩
theorem Kw {α:Type} (f:α→Int):∀ (l:List α)(b:Int),l.foldl (fun b m=>min b (f m)) b=b∨∃ m∈l,l.foldl (fun b m=>min b (f m)) b=f m
  | [],b=>.inl rfl
  | m::l,b=>by
    rw [List.foldl_cons]
    rcases Kw f l (min b (f m)) with h | ⟨x,hx,h⟩
    · rw [h]
      by_cases hb:b≤f m
      · exact .inl (by omega)
      · exact .inr ⟨m,by simp,by omega⟩
    · exact .inr ⟨x,List.mem_cons_of_mem _ hx,h⟩
def PN (r:Af):Am:=⟨List.replicate r.buses.length 0,List.replicate r.buses.length (-1),List.replicate r.spares.length false⟩
theorem Pa (r:Af):Eh r (PN r)=true:=by
  unfold Eh PN
  simp only [List.length_replicate,Bool.and_eq_true,decide_eq_true_eq,List.all_eq_true,List.mem_range]
  refine⟨⟨trivial,trivial,trivial⟩,fun i hi=>?_⟩
  unfold Kt
  simp only []
  rw [Jg _ _ _ hi,Jg _ _ _ hi]
  simp
theorem R6 (n:Nat) (r:Af) (hF:EQ r=0) (hn:110≤n) (hn2:n≤900) :
    ∃ L,CJ n r=some (L,0)∧(∀ a,Eh r a=true→L≤maxW r a)∧∃ a,Eh r a=true∧maxW r a=L:=by
  have V:=Nu hF
  have:=V.nl
  have:=V.nb
  have:=V.ns
  have hlook:=V.looked
  obtain⟨t',h⟩:=N5 n r V hn hn2 (BQ r) [] (r.to_-r.fr) (fun d v h=>by cases h) fun q h=>h
  have e:B2 n (fun s y0 y1=>BH n y0 y1 s.2 s.1 r) r (([]:List (Ap×Int)),r.to_-r.fr)=_ :=
    (Q5 _ n r _ V.nb V.ns V.nl (by omega)).trans h
  have hw:∀ x∈BQ r,enc (Da r x)=x:=fun x hx=>(HM r x V.nb V.ns (Fu hx).1 (Fu hx).2).2.2
  refine⟨(BQ r).foldl (fun b q=>min b (maxW r (Da r q))) (r.to_-r.fr),?_,fun a ha=>?_,?_⟩
  · unfold CJ
    rw [Lc n r (by omega) (by omega) (by omega) (by omega),hF,Option.bind_some]
    simp only [bne_self_eq_false,cond_false]
    rw [FF (by omega) (by omega),e,Option.bind_some]
  · obtain⟨h1,h2⟩:=GF V ha
    have:=((Ii (fun q=>maxW r (Da r q)) (BQ r) (r.to_-r.fr) _).1 (Int.le_refl _)).2 _ h1
    simp only [h2] at this
    exact this
  · rcases Kw (fun q=>maxW r (Da r q)) (BQ r) (r.to_-r.fr) with h | ⟨q,hq,h⟩
    · refine⟨PN r,Pa r,?_⟩
      obtain⟨h1,h2⟩:=GF V (Pa r)
      have h3:=((Ii (fun q=>maxW r (Da r q)) (BQ r) (r.to_-r.fr) _).1 (Int.le_refl _)).2 _ h1
      simp only [h2] at h3
      have:=Ih V (PN r)
      rw [h] at h3 ⊢
      omega
    · exact⟨Da r q,Ka V hq,h.symm⟩
end Go.Proofs.Ytokchpjijlebiaa
namespace Go.Proofs.Ytokchpjijlebiaa
open Go Go.RowKit
structure Hm (a:Am):Prop where
  nh:a.holds.length≤4
  nt:a.turns.length=a.holds.length
  ns:a.spares.length≤2
  h:∀ x∈a.holds,0≤x∧x≤2
  t:∀ x∈a.turns,-1≤x
theorem Tp {r:Af} {a:Am} (V:Bg r) (A:CZ r a):Hm a:=by
  have:=V.nb
  have:=V.ns
  refine⟨by rw [A.holds]; omega,by rw [A.holds,A.turns],by rw [A.spares]; omega,fun x hx=>?_,fun x hx=>?_⟩
  · obtain⟨i,hi,rfl⟩:=List.mem_iff_getElem.1 hx
    have:=A.hold i (by rw [← A.holds]; exact hi)
    rwa [Bp _ _ hi] at this
  · obtain⟨i,hi,rfl⟩:=List.mem_iff_getElem.1 hx
    have hib:i<r.buses.length:=by rw [← A.turns]; exact hi
    have:=A.turn i hib
    rw [Bp _ _ hi,Bp _ _ hib] at this
    have:=V.buses _ (List.getElem_mem hib)
    omega
theorem Fv (a:Am) (F:Hm a):∀ (n i:Nat)(acc:Int),a.holds.length<n+i→i≤a.holds.length→0≤acc→acc≤2*i→∃ m,CH n a (i:Int) acc=some m∧m=acc+((a.holds.drop i).map fun h=>min h 1).sum+((a.turns.drop i).map fun t=>min (t+1) 1).sum∧0≤m∧m≤8
  | 0,i,acc,h,hi,_,_=>by omega
  | n+1,i,acc,h,hi,h0,h1=>by
    have:=F.nh
    rw [CH,Bu]
    by_cases hx:i<a.holds.length
    · have hy:i<a.turns.length:=by rw [F.nt]; exact hx
      have b1:=F.h _ (List.getElem_mem hx)
      have b2:=F.t _ (List.getElem_mem hy)
      simp only [hx,decide_true,cond_true]
      rw [AC _ _ hx,Option.bind_some,AC _ _ hy,Az hx,Az hy,List.map_cons,List.map_cons,List.sum_cons,List.sum_cons,Cw i (by omega),FF (x:=acc+1) (by omega) (by omega)]
      by_cases c1:a.holds[i]>0
      · rw [decide_eq_true c1,cond_true,Option.bind_some,Option.bind_some,FF (x:=acc+1+1) (by omega) (by omega)]
        by_cases c2:a.turns[i]≥0
        · rw [decide_eq_true c2,cond_true]
          obtain⟨m,q1,q2,q3,q4⟩:=Fv a F n (i+1) (acc+1+1) (by omega) (by omega) (by omega) (by omega)
          exact⟨m,q1,by omega,q3,q4⟩
        · rw [decide_eq_false c2,cond_false]
          obtain⟨m,q1,q2,q3,q4⟩:=Fv a F n (i+1) (acc+1) (by omega) (by omega) (by omega) (by omega)
          exact⟨m,q1,by omega,q3,q4⟩
      · rw [decide_eq_false c1,cond_false,Option.bind_some,Option.bind_some,FF (x:=acc+1) (by omega) (by omega)]
        by_cases c2:a.turns[i]≥0
        · rw [decide_eq_true c2,cond_true]
          obtain⟨m,q1,q2,q3,q4⟩:=Fv a F n (i+1) (acc+1) (by omega) (by omega) (by omega) (by omega)
          exact⟨m,q1,by omega,q3,q4⟩
        · rw [decide_eq_false c2,cond_false]
          obtain⟨m,q1,q2,q3,q4⟩:=Fv a F n (i+1) acc (by omega) (by omega) (by omega) (by omega)
          exact⟨m,q1,by omega,q3,q4⟩
    · have:i=a.holds.length:=by omega
      have hd:a.holds.drop i=[]:=List.drop_eq_nil_of_le (by omega)
      have hd2:a.turns.drop i=[]:=List.drop_eq_nil_of_le (by rw [F.nt]; omega)
      simp only [hx,decide_false,cond_false,hd,hd2]
      exact⟨acc,rfl,by simp,h0,by omega⟩
theorem Ij (a:Am) (F:Hm a):∀ (n i:Nat)(acc:Int),a.spares.length<n+i→i≤a.spares.length→0≤acc→acc≤8+i→CI n a (i:Int) acc=some (acc+((a.spares.drop i).map OA).sum)
  | 0,i,acc,h,hi,_,_=>by omega
  | n+1,i,acc,h,hi,h0,h1=>by
    have:=F.ns
    rw [CI,Bu]
    by_cases hx:i<a.spares.length
    · simp only [hx,decide_true,cond_true]
      rw [AC _ _ hx,Option.bind_some,Az hx,List.map_cons,List.sum_cons,Cw i (by omega),FF (x:=acc+1) (by omega) (by omega)]
      cases a.spares[i] with
      | true=>rw [cond_true,Ij a F n (i+1) (acc+1) (by omega) (by omega) (by omega) (by omega)]; congr 1; show acc+1+_=acc+(1+_); omega
      | false=>rw [cond_false,Ij a F n (i+1) acc (by omega) (by omega) (by omega) (by omega)]; congr 1; show acc+_=acc+(0+_); omega
    · have:i=a.spares.length:=by omega
      simp [this]
theorem Kx (n:Nat) (a:Am) (F:Hm a) (hn:20≤n):Et n a=some (FL a):=by
  have:=F.nh
  have:=F.ns
  obtain⟨m,q1,q2,q3,q4⟩:=Fv a F n 0 0 (by omega) (by omega) (by omega) (by omega)
  have q5:=Ij a F n 0 m (by omega) (by omega) q3 (by omega)
  rw [Int.natCast_zero] at q1 q5
  unfold Et
  rw [q1,Option.bind_some,q5,Option.bind_some,q2]
  simp only [List.drop_zero,FL,Int.zero_add]
theorem Pb (a:Am) (F:Hm a):∀ (n i:Nat)(acc:Int),a.holds.length<n+i→i≤a.holds.length→0≤acc→acc≤2*i→ES n a (i:Int) acc=some (acc+(a.holds.drop i).sum)
  | 0,i,acc,h,hi,_,_=>by omega
  | n+1,i,acc,h,hi,h0,h1=>by
    have:=F.nh
    rw [ES,Bu]
    by_cases hx:i<a.holds.length
    · have b1:=F.h _ (List.getElem_mem hx)
      simp only [hx,decide_true,cond_true]
      rw [AC _ _ hx,Option.bind_some,Az hx,List.sum_cons,Cw i (by omega),FF (x:=acc+_) (by omega) (by omega)]
      rw [Pb a F n (i+1) _ (by omega) (by omega) (by omega) (by omega),Int.add_assoc]
    · have:i=a.holds.length:=by omega
      simp [this]
theorem N6 (n:Nat) (a:Am) (F:Hm a) (hn:20≤n):Hn n a=some (Gp a):=by
  have:=F.nh
  have q1:=Pb a F n 0 0 (by omega) (by omega) (by omega) (by omega)
  rw [Int.natCast_zero] at q1
  unfold Hn
  rw [q1,Option.bind_some]
  simp only [List.drop_zero,Gp,Int.zero_add]
def Ik:List Int→List Int→Ex Bool Unit
  | x::xs,y::ys=>if x=y then Ik xs ys else Ex.ret (decide (x<y))
  | _,_=>Ex.go ()
theorem Jn:∀ (x y x' y':List Int),x.length=y.length→Ik (x++x') (y++y')=match Ik x y with | Ex.ret b=>Ex.ret b | Ex.go _=>Ik x' y'
  | [],[],_,_,_=>rfl
  | [],_::_,_,_,h=>by simp at h
  | _::_,[],_,_,h=>by simp at h
  | a::x,b::y,x',y',h=>by
    rw [List.cons_append,List.cons_append,Ik,Ik]
    by_cases e:a=b
    · rw [if_pos e,if_pos e,Jn x y x' y' (by simpa using h)]
    · rw [if_neg e,if_neg e]
theorem Q8:∀ (x y:List Int),Lg x y=match Ik x y with | Ex.ret b=>b | Ex.go _=>false
  | [],_=>by simp [Lg,Ik]
  | _::_,[]=>by simp [Lg,Ik]
  | a::x,b::y=>by
    rw [Lg,Ik]
    by_cases e:a=b
    · rw [if_pos e,if_pos e,Q8 x y]
    · rw [if_neg e,if_neg e]
theorem Lj (a b:Am) (hl:a.holds.length=b.holds.length) (hb:a.holds.length≤20):∀ (n i:Nat),a.holds.length<n+i→i≤a.holds.length→Dz n a b (i:Int)=some (Ik (a.holds.drop i) (b.holds.drop i))
  | 0,i,h,hi=>by omega
  | n+1,i,h,hi=>by
    rw [Dz,Bu]
    by_cases hx:i<a.holds.length
    · have hy:i<b.holds.length:=by omega
      simp only [hx,decide_true,cond_true]
      rw [AC _ _ hx,AC _ _ hy,Option.bind_some,Option.bind_some,Option.bind_some,Option.bind_some,Az hx,Az hy,Ik]
      by_cases e:a.holds[i]=b.holds[i]
      · rw [if_pos e,show(a.holds[i] != b.holds[i])=false by simp [e],cond_false,Cw i (by omega),Lj a b hl hb n (i+1) (by omega) (by omega)]
      · rw [if_neg e,show(a.holds[i] != b.holds[i])=true by simp [e],cond_true]
    · have:i=a.holds.length:=by omega
      have hd:a.holds.drop i=[]:=List.drop_eq_nil_of_le (by omega)
      simp only [hx,decide_false,cond_false,hd]
      rfl
theorem Lk (a b:Am) (hl:a.turns.length=b.turns.length) (hb:a.turns.length≤20):∀ (n i:Nat),a.turns.length<n+i→i≤a.turns.length→D0 n a b (i:Int)=some (Ik (a.turns.drop i) (b.turns.drop i))
  | 0,i,h,hi=>by omega
  | n+1,i,h,hi=>by
    rw [D0,Bu]
    by_cases hx:i<a.turns.length
    · have hy:i<b.turns.length:=by omega
      simp only [hx,decide_true,cond_true]
      rw [AC _ _ hx,AC _ _ hy,Option.bind_some,Option.bind_some,Option.bind_some,Option.bind_some,Az hx,Az hy,Ik]
      by_cases e:a.turns[i]=b.turns[i]
      · rw [if_pos e,show(a.turns[i] != b.turns[i])=false by simp [e],cond_false,Cw i (by omega),Lk a b hl hb n (i+1) (by omega) (by omega)]
      · rw [if_neg e,show(a.turns[i] != b.turns[i])=true by simp [e],cond_true]
    · have:i=a.turns.length:=by omega
      have hd:a.turns.drop i=[]:=List.drop_eq_nil_of_le (by omega)
      simp only [hx,decide_false,cond_false,hd]
      rfl
theorem Ll (a b:Am) (hl:a.spares.length=b.spares.length) (hb:a.spares.length≤20):∀ (n i:Nat),a.spares.length<n+i→i≤a.spares.length→D1 n a b (i:Int)=some (Ik ((a.spares.drop i).map OA) ((b.spares.drop i).map OA))
  | 0,i,h,hi=>by omega
  | n+1,i,h,hi=>by
    rw [D1,Bu]
    by_cases hx:i<a.spares.length
    · have hy:i<b.spares.length:=by omega
      simp only [hx,decide_true,cond_true]
      rw [AC _ _ hx,AC _ _ hy,Option.bind_some,Option.bind_some,Option.bind_some,Az hx,Az hy,List.map_cons,List.map_cons,Ik,Cw i (by omega)]
      have IH:=Ll a b hl hb n (i+1) (by omega) (by omega)
      cases a.spares[i] <;> cases b.spares[i]
      · exact IH
      · rfl
      · rfl
      · exact IH
    · have:i=a.spares.length:=by omega
      have hd:a.spares.drop i=[]:=List.drop_eq_nil_of_le (by omega)
      simp only [hx,decide_false,cond_false,hd]
      rfl
theorem OC (n:Nat) (a b:Am) (F:Hm a) (G:Hm b) (h1:a.holds.length=b.holds.length) (h3:a.spares.length=b.spares.length) (hn:20≤n):GU n a b=some (Cx a b):=by
  have:=F.nh
  have:=F.ns
  have hT:a.turns.length=b.turns.length:=by rw [F.nt,G.nt,h1]
  have e1:=Lj a b h1 (by omega) n 0 (by omega) (by omega)
  have e2:=Lk a b hT (by rw [F.nt]; omega) n 0 (by rw [F.nt]; omega) (by omega)
  have e3:=Ll a b h3 (by omega) n 0 (by omega) (by omega)
  rw [Int.natCast_zero,List.drop_zero,List.drop_zero] at e1 e2 e3
  unfold GU Cx
  rw [Kx n a F hn,Kx n b G hn,N6 n a F hn,N6 n b G hn]
  simp only [Option.bind_some]
  by_cases c1:FL a=FL b
  · rw [if_pos c1,show(FL a != FL b)=false by simp [c1],cond_false]
    by_cases c2:Gp a=Gp b
    · rw [if_pos c2,show(Gp a != Gp b)=false by simp [c2],cond_false,e1,e2,e3,Q8]
      unfold enc
      rw [Jn _ _ _ _ (by rw [List.length_append,List.length_append]; omega),Jn _ _ _ _ h1]
      simp only [Option.bind_some]
      cases Ik a.holds b.holds with
      | ret x=>rfl
      | go x =>
        simp only [Ex.bind]
        cases Ik a.turns b.turns with
        | ret x=>rfl
        | go x =>
          simp only [Ex.bind,Option.bind_some]
          cases Ik (a.spares.map OA) (b.spares.map OA) <;> rfl
    · rw [if_neg c2,show(Gp a != Gp b)=true by simp [c2],cond_true]
  · rw [if_neg c1,show(FL a != FL b)=true by simp [c1],cond_true]
end Go.Proofs.Ytokchpjijlebiaa
namespace Go.Proofs.Ytokchpjijlebiaa
open Go Go.RowKit
structure Tf (p q:Bi×A5):Prop where
  stop:p.1.stop=q.1.stop
  turned:p.1.turned=q.1.turned
  tm:p.1.tm≤q.1.tm
  turn:p.2.turn≤q.2.turn
  len:p.2.legs.length=q.2.legs.length
  legs:∀ (k:Nat)(d d':Int),p.2.legs[k]? = some d→q.2.legs[k]? = some d'→d≤d'
def Gq (st:Int) (p:Bi×A5) (k:Int):Option Int:=BC (Cd st p.1.turned p.2.turn p.2.legs 40 p.1.tm p.1.stop) k
theorem Tf.at {p q:Bi×A5} (h:Tf p q) {st:Int} (ht:2*p.1.turned+1<st) (k:Int):(Gq st p k=none∧Gq st q k=none)∨∃ a b,Gq st p k=some a∧Gq st q k=some b∧a≤b:=by
  unfold Gq
  rw [← h.stop,← h.turned]
  exact HH ht h.len h.legs h.turn 40 _ _ _ k h.tm
theorem Gc {st:Int} {p:(Bi×A5)×(Bi×A5)} {k:Int} {x:Rg}:Eo st 40 p k=some x↔Gq st p.1 k=some x.lo∧Gq st p.2 k=some x.hi:=by
  unfold Eo Gq
  cases BC (Cd st p.1.1.turned p.1.2.turn p.1.2.legs 40 p.1.1.tm p.1.1.stop) k with
  | none=>simp
  | some a =>
    cases BC (Cd st p.2.1.turned p.2.2.turn p.2.2.legs 40 p.2.1.tm p.2.1.stop) k with
    | none=>simp
    | some b =>
      simp only [Option.some.injEq]
      constructor
      · rintro rfl; exact⟨rfl,rfl⟩
      · rintro⟨h1,h2⟩; cases x; simp_all
theorem MF {st:Int} {p p':(Bi×A5)×(Bi×A5)} (h1:Tf p.1 p'.1) (h2:Tf p'.2 p.2) (t1:2*p.1.1.turned+1<st) (t2:2*p'.2.1.turned+1<st) {k:Int} {x:Rg} (h:Eo st 40 p k=some x):∃ x',Eo st 40 p' k=some x'∧x.lo≤x'.lo∧x'.hi≤x.hi:=by
  obtain⟨a1,a2⟩:=Gc.1 h
  rcases h1.at t1 k with⟨b1,_⟩ | ⟨a,b,b1,b2,b3⟩
  · rw [b1] at a1; cases a1
  · rcases h2.at t2 k with⟨_,c1⟩ | ⟨c,d,c1,c2,c3⟩
    · rw [c1] at a2; cases a2
    · rw [b1] at a1; cases a1
      rw [c2] at a2; cases a2
      exact⟨⟨b,c⟩,Gc.2 ⟨b2,c1⟩,b3,c3⟩
structure Sh (r x:Af):Prop where
  ll:x.legs.length=r.legs.length
  legs:∀ (i:Nat)(a b:Rg),r.legs[i]? = some a→x.legs[i]? = some b→a.lo≤b.lo∧b.lo≤b.hi∧b.hi≤a.hi
  turn:r.turn.lo≤x.turn.lo∧x.turn.lo≤x.turn.hi∧x.turn.hi≤r.turn.hi
  lb:x.buses.length=r.buses.length
  buses:∀ (i:Nat)(a b:Cy),r.buses[i]? = some a→x.buses[i]? = some b→a.stop=b.stop∧a.tm.lo≤b.tm.lo∧b.tm.lo≤b.tm.hi∧b.tm.hi≤a.tm.hi
  spares:x.spares=r.spares
  unit:x.unit=r.unit
  gap:x.gap=r.gap
  fr:x.fr=r.fr
  to_:x.to_=r.to_
theorem Sh.valid {r x:Af} (h:Sh r x) (V:Bg r):Bg x:=by
  refine⟨by rw [h.lb]; exact V.nb,by rw [h.spares]; exact V.ns,by rw [h.ll]; exact V.odd,by rw [h.ll]; exact V.nl,?_,by rw [h.unit]; exact V.unit,by rw [h.gap]; exact V.gap,by rw [h.fr,h.to_]; exact V.looked,fun b hb=>?_,fun b hb=>?_,?_⟩
  · have:=V.turn; have:=h.turn; omega
  · obtain⟨i,hi,rfl⟩:=List.mem_iff_getElem.1 hb
    have hi':i<r.legs.length:=by rw [← h.ll]; exact hi
    have:=h.legs i _ _ (List.getElem?_eq_getElem hi') (List.getElem?_eq_getElem hi)
    have:=V.legs _ (List.getElem_mem hi')
    omega
  · obtain⟨i,hi,rfl⟩:=List.mem_iff_getElem.1 hb
    have hi':i<r.buses.length:=by rw [← h.lb]; exact hi
    have:=h.buses i _ _ (List.getElem?_eq_getElem hi') (List.getElem?_eq_getElem hi)
    have:=V.buses _ (List.getElem_mem hi')
    have:=h.ll
    omega
  · rw [h.spares,h.ll]; exact V.spares
theorem Sh.acts {r x:Af} (h:Sh r x) (a:Am):Eh x a=Eh r a:=by
  unfold Eh
  rw [h.lb,h.spares]
  congr 1
  rw [Bool.eq_iff_iff,List.all_eq_true,List.all_eq_true]
  have key:∀ i,i<r.buses.length→Kt x a i=Kt r a i:=fun i hi=>by
    have hi':i<x.buses.length:=by rw [h.lb]; exact hi
    have:=(h.buses i _ _ (List.getElem?_eq_getElem hi) (List.getElem?_eq_getElem hi')).1
    unfold Kt
    rw [Bp _ _ hi,Bp _ _ hi',this,h.ll]
  constructor
  · intro H i hi; rw [← key i (by simpa using hi)]; exact H i hi
  · intro H i hi; rw [key i (by simpa using hi)]; exact H i hi
theorem Sh.legsLo {r x:Af} (h:Sh r x):∀ (k:Nat)(d d':Int),(r.legs.map Rg.lo)[k]? = some d→(x.legs.map Rg.lo)[k]? = some d'→d≤d':=fun k d d' h1 h2=>by
  rw [List.getElem?_map] at h1 h2
  obtain⟨a,ha,rfl⟩:=Option.map_eq_some_iff.1 h1
  obtain⟨b,hb,rfl⟩:=Option.map_eq_some_iff.1 h2
  exact(h.legs k a b ha hb).1
theorem Sh.legsHi {r x:Af} (h:Sh r x):∀ (k:Nat)(d d':Int),(x.legs.map Rg.hi)[k]? = some d→(r.legs.map Rg.hi)[k]? = some d'→d≤d':=fun k d d' h1 h2=>by
  rw [List.getElem?_map] at h1 h2
  obtain⟨a,ha,rfl⟩:=Option.map_eq_some_iff.1 h1
  obtain⟨b,hb,rfl⟩:=Option.map_eq_some_iff.1 h2
  exact(h.legs k b a hb ha).2.2
theorem Sh.dom {r x:Af} (h:Sh r x) (V:Bg r) {a:Am} (A:CZ r a) (k:Nat):Vb (AX r a k) (AX x a k):=by
  intro p hp
  have hV:=h.valid V
  unfold AX at hp ⊢
  obtain⟨P,hP,hs⟩:=List.mem_filterMap.1 hp
  rw [h.ll]
  unfold G0 at hP
  rcases List.mem_append.1 hP with hP | hP
  · obtain⟨i,hi,rfl⟩:=List.mem_map.1 hP
    have hi:i<r.buses.length:=by simpa using hi
    have hi':i<x.buses.length:=by rw [h.lb]; exact hi
    have hb:=h.buses i _ _ (List.getElem?_eq_getElem hi) (List.getElem?_eq_getElem hi')
    have o1:=(Ld DH.low V A i hi).t
    have ht:=h.turn
    have L1:Tf (En r a Rg.lo i) (En x a Rg.lo i):=by
      refine⟨?_,rfl,?_,ht.1,by simp [En,h.ll],h.legsLo⟩
      · simp only [En,Bp _ _ hi,Bp _ _ hi']; exact hb.1
      · simp only [En,Bp _ _ hi,Bp _ _ hi',h.unit]; omega
    have L2:Tf (En x a Rg.hi i) (En r a Rg.hi i):=by
      refine⟨?_,rfl,?_,ht.2.2,by simp [En,h.ll],h.legsHi⟩
      · simp only [En,Bp _ _ hi,Bp _ _ hi']; exact hb.1.symm
      · simp only [En,Bp _ _ hi,Bp _ _ hi',h.unit]; omega
    obtain⟨x',e1,e2,e3⟩:=MF (p:=(En r a Rg.lo i,En r a Rg.hi i)) (p':=(En x a Rg.lo i,En x a Rg.hi i)) L1 L2 o1 o1 hs
    refine⟨x',List.mem_filterMap.2 ⟨_,List.mem_append_left _ (List.mem_map_of_mem (List.mem_range.2 hi')),e1⟩,e2,e3⟩
  · obtain⟨j,hj,hc⟩:=List.mem_filterMap.1 hP
    split at hc
    · rename_i hsp
      cases hc
      have hj:j<r.spares.length:=by simpa using hj
      have hj':j<x.spares.length:=by rw [h.spares]; exact hj
      have o1:=(Ny DH.low V j hj).t
      have L1:Tf (IG r Rg.lo j) (IG x Rg.lo j):=⟨by simp [IG,h.spares],rfl,by simp [IG,h.spares],Int.le_refl _,by simp [IG,h.ll],h.legsLo⟩
      have L2:Tf (IG x Rg.hi j) (IG r Rg.hi j):=⟨by simp [IG,h.spares],rfl,by simp [IG,h.spares],Int.le_refl _,by simp [IG,h.ll],h.legsHi⟩
      obtain⟨x',e1,e2,e3⟩:=MF (p:=(IG r Rg.lo j,IG r Rg.hi j)) (p':=(IG x Rg.lo j,IG x Rg.hi j)) L1 L2 o1 o1 hs
      refine⟨x',List.mem_filterMap.2 ⟨_,List.mem_append_right _ (List.mem_filterMap.2 ⟨j,List.mem_range.2 hj',by rw [if_pos hsp]⟩),e1⟩,e2,e3⟩
    · cases hc
def Si (v w:List Int):Prop:=v.length=w.length∧∀ (s:Nat)(x y:Int),v[s]? = some x→w[s]? = some y→x≤y
theorem Q9 {r x:Af} {a b:Am} (hl:x.legs.length=r.legs.length) (h:∀ k<r.legs.length+1,WR x.fr x.to_ (AX x b k)≤WR r.fr r.to_ (AX r a k)):Si (C0 x b) (C0 r a):=by
  unfold C0
  refine⟨by simp [hl],fun s u v hu hv=>?_⟩
  rw [List.getElem?_map] at hu hv
  obtain⟨i,hi,rfl⟩:=Option.map_eq_some_iff.1 hu
  obtain⟨j,hj,rfl⟩:=Option.map_eq_some_iff.1 hv
  have hs:s<r.legs.length+1:=by
    rcases Nat.lt_or_ge s (r.legs.length+1) with h' | h'
    · exact h'
    · rw [List.getElem?_eq_none (by simpa using h')] at hj; cases hj
  rw [List.getElem?_range hs] at hj
  rw [hl,List.getElem?_range hs] at hi
  cases hi; cases hj
  exact h s hs
theorem Si.maxL {v w:List Int} (h:Si v w) (hv:v≠[]) (hw:w≠[]):maxL v≤maxL w:=(PL hv).2 fun x hx=>by
  obtain⟨i,hi⟩:=List.mem_iff_getElem?.1 hx
  have hiv:i<v.length:=by
    rcases Nat.lt_or_ge i v.length with h' | h'
    · exact h'
    · rw [List.getElem?_eq_none h'] at hi; cases hi
  have hiw:i<w.length:=by rw [← h.1]; exact hiv
  have:=h.2 i x _ hi (List.getElem?_eq_getElem hiw)
  have:=(PL hw).1 (Int.le_refl _) _ (List.getElem_mem hiw)
  omega
theorem Sh.worsts {r x:Af} (h:Sh r x) (V:Bg r) {a:Am} (A:CZ r a):Si (C0 x a) (C0 r a) :=
  Q9 h.ll fun k _=>by
    rw [h.fr,h.to_]
    exact U8 (h.dom V A k) (Int.le_refl _) V.looked.2.1 (Int.le_refl _)
theorem Sh.maxW {r x:Af} (h:Sh r x) (V:Bg r) {a:Am} (A:CZ r a):maxW x a≤maxW r a:=(h.worsts V A).maxL (Gb _ _) (Gb _ _)
end Go.Proofs.Ytokchpjijlebiaa
namespace Go.Proofs.Ytokchpjijlebiaa
open Go Go.RowKit
end Go.Proofs.Ytokchpjijlebiaa
namespace Go.Proofs.Ytokchpjijlebiaa
open Go Go.RowKit
def Fw (st:Nat) (p:Bi×A5):List Int:=(List.range st).map fun(k:Nat)=>(Gq (st:Int) p k).getD (-1)
def Mf (out:List Int) (pl:List (Int×Int)):List Int:=pl.foldl (fun o p=>o.set p.1.toNat p.2) out
theorem Ky:∀ (pl:List (Int×Int))(out:List Int),(Mf out pl).length=out.length
  | [],_=>rfl
  | p::r,out=>by
    show(Mf (out.set p.1.toNat p.2) r).length=_
    rw [Ky r]; simp
theorem N7:∀ (pl:List (Int×Int))(out:List Int)(k:Nat),(pl.map Prod.fst).Nodup→(∀ p∈pl,0≤p.1)→k<out.length→(Mf out pl)[k]? = some ((BC pl (k:Int)).getD out[k]!)
  | [],out,k,_,_,hk=>by
    show out[k]? = _
    rw [List.getElem?_eq_getElem hk,Bp _ _ hk]; rfl
  | p::r,out,k,hn,h0,hk=>by
    show(Mf (out.set p.1.toNat p.2) r)[k]? = _
    rw [List.map_cons,List.nodup_cons] at hn
    rw [N7 r _ k hn.2 (fun q hq=>h0 q (List.mem_cons_of_mem _ hq)) (by simpa using hk),BC]
    have hp:=h0 p (by simp)
    by_cases hpk:p.1=(k:Int)
    · have hr:BC r (k:Int)=none:=Iw fun q hq hqk=>hn.1 (by rw [hpk,← hqk]; exact List.mem_map_of_mem hq)
      rw [hr,if_pos hpk,Bp _ _ (by simpa using hk),show p.1.toNat=k by omega,List.getElem_set_self]
      rfl
    · rw [if_neg hpk,Bp _ _ (by simpa using hk),Bp _ _ hk,List.getElem_set_ne (by omega)]
theorem Pc:∀ (n i:Nat)(out:List Int),out.length<n+i→i≤out.length→out.length≤20→(∀ k,k<i→out[k]? = some (-1))→Dy n out (i:Int)=some (List.replicate out.length (-1))
  | 0,i,out,h,hi,_,_=>by omega
  | n+1,i,out,h,hi,hb,hk=>by
    rw [Dy,Bu]
    by_cases hx:i<out.length
    · simp only [hx,decide_true,cond_true]
      rw [AC _ _ hx,Option.bind_some,Ry _ _ _ hx,Option.bind_some,Cw i (by omega),Pc n (i+1) _ (by simp; omega) (by simp; omega) (by simpa using hb) fun k hk'=>?_]
      · simp
      · rw [List.getElem?_set]
        by_cases hik:i=k
        · subst hik; simp [hx]
        · rw [if_neg hik]; exact hk k (by omega)
    · simp only [hx,decide_false,cond_false,Option.some.injEq]
      apply List.ext_getElem?
      intro k
      by_cases hks:k<out.length
      · rw [hk k (by omega),List.getElem?_replicate,if_pos hks]
      · rw [List.getElem?_eq_none (by omega),List.getElem?_eq_none (by simp; omega)]
theorem Pd (r:Af) (hl:r.legs.length≤20) (hodd:r.legs.length % 2=1) (turned turn:Int) (legs:List Int) (hq:Se turn legs) (hql:legs.length=r.legs.length) (ht:2*turned+1<(r.legs.length:Int)+1):∀ (n:Nat)(tm s:Int)(out:List Int),out.length=r.legs.length+1→0≤tm→tm+300*n≤1000000000→0≤s→s≤(r.legs.length:Int)+1→(r.legs.length:Int)+1-s<n →
    Cc n r turned turn legs out s tm=some (Mf out (Cd ((r.legs.length:Int)+1) turned turn legs n tm s))
  | 0,tm,s,out,_,_,_,h1,h2,h3=>by omega
  | n+1,tm,s,out,ho,h0,hb,hs,h1,h2=>by
    have IH:=Pd r hl hodd turned turn legs hq hql ht n
    obtain⟨t0,t1,hq1,hq2⟩:=hq
    rw [Cc,Cd,ho]
    by_cases hc:0≤s∧s<(r.legs.length:Int)+1
    · obtain⟨k,rfl⟩:∃ k:Nat,s=k:=⟨s.toNat,by omega⟩
      have hk:k<out.length:=by omega
      rw [decide_eq_true (by omega),cond_true,if_pos hc,AC _ _ hk,Option.bind_some,Ry _ _ _ hk,Option.bind_some]
      show _=some (Mf (out.set ((k:Int)).toNat tm) _)
      rw [Int.toNat_natCast]
      by_cases hst:(k:Int)=turned
      · rw [if_pos hst,beq_iff_eq.2 hst,cond_true,Hy n r hl,Option.bind_some]
        rw [FF (x:=2*_) (by omega) (by omega),FF (x:=2*(((r.legs.length+1) / 2:Nat):Int)-1) (by omega) (by omega),FF (x:=_-(k:Int)) (by omega) (by omega),FF (x:=tm+turn) (by omega) (by omega)]
        rw [show 2*(((r.legs.length+1) / 2:Nat):Int)-1-(k:Int)=(r.legs.length:Int)+1-1-(k:Int) by omega]
        exact IH _ _ _ (by simpa using ho) (by omega) (by omega) (by omega) (by omega) (by omega)
      · rw [if_neg hst,beq_eq_false_iff_ne.2 hst,cond_false]
        by_cases hsl:k<legs.length
        · have hd:=hq2 _ (List.getElem_mem hsl)
          rw [decide_eq_true (by omega),cond_true,AC _ _ hsl,Option.bind_some,List.getElem?_eq_getElem hsl]
          simp only []
          rw [FF (x:=tm+_) (by omega) (by omega),Cw k (by omega),IH _ _ _ (by simpa using ho) (by omega) (by omega) (by omega) (by omega) (by omega)]
          rfl
        · rw [decide_eq_false (by omega),cond_false,List.getElem?_eq_none (by omega)]
          simp only []
          have e:(k:Int)+1=(r.legs.length:Int)+1:=by omega
          rw [FF (x:=(k:Int)+1) (by omega) (by omega),e]
          cases n with
          | zero=>omega
          | succ n =>
            rw [Cc,List.length_set,ho,decide_eq_false (by omega),cond_false]
            rfl
    · rw [decide_eq_false (by omega),cond_false,if_neg hc]
      rfl
theorem Kz (n:Nat) (r:Af) (V:Bg r) (p:Bi×A5) (ok:EG r p) (hn:60≤n) (hn2:n≤900):FN n r p.1.stop p.1.tm p.1.turned p.2.turn p.2.legs=some (Fw (r.legs.length+1) p):=by
  have:=V.nl
  have t0:=ok.tm0
  have t1:=ok.tm1
  have s0:=ok.s0
  have s1:=ok.s1
  unfold FN
  rw [Fs n r (by omega),Option.bind_some]
  have eM:mk ((r.legs.length:Int)+1) (0:Int)=some (List.replicate (r.legs.length+1) 0):=by
    rw [show((r.legs.length:Int)+1)=((r.legs.length+1:Nat):Int) by omega]; exact Vg _ _ (by omega)
  rw [eM,Option.bind_some]
  have e1:=Pc n 0 (List.replicate (r.legs.length+1) 0) (by simp; omega) (by omega) (by simp; omega) (fun k hk=>by omega)
  rw [Int.natCast_zero,List.length_replicate] at e1
  rw [e1,Option.bind_some,Pd r (by omega) V.odd p.1.turned p.2.turn p.2.legs ok.q ok.len ok.t n p.1.tm p.1.stop _ (by simp) t0 (by omega) s0 s1 (by omega),Option.bind_some,Option.some.injEq]
  apply List.ext_getElem?
  intro k
  unfold Fw
  by_cases hk:k<r.legs.length+1
  · rw [N7 _ _ k (Ga ok.t n _ _) (fun q hq=>(Fq ok.t n _ _ q hq).2.1) (by simpa using hk),List.getElem?_map,List.getElem?_range hk,Option.map_some,Option.some.injEq,Jg _ _ _ hk]
    unfold Gq
    rw [GN ok.t n 40 _ _ (by omega) (by omega)]
    rfl
  · rw [List.getElem?_eq_none (by rw [Ky]; simp; omega),List.getElem?_eq_none (by simp; omega)]
theorem Pe (r:Af) (a:Am) (t:Bd) (V:Bg r) (S:Kr r a t) (hok:∀ p∈Cz r a t,EG r p) (m:Nat) (hm:60≤m):∀ (n i:Nat)(x:List (List Int)),r.buses.length+m<n+i→n≤900→i≤r.buses.length→x.length=i →
    ET n r a t x (i:Int)=some (x++((List.range r.buses.length).drop i).map (fun i=>Fw (r.legs.length+1) (BP r a t i)))
  | 0,i,x,h,_,hi,_=>by omega
  | n+1,i,x,h,hn9,hi,h1=>by
    rw [ET,Bu]
    have:=S.nb
    by_cases hx:i<r.buses.length
    · have q1:i<a.holds.length:=by rw [S.holds]; exact hx
      have q2:i<a.turns.length:=by rw [S.turns]; exact hx
      have q3:i<t.tm.length:=by rw [S.tm]; exact hx
      have q4:i<t.turns.length:=by rw [S.tt]; exact hx
      have q5:i<t.legs.length:=by rw [S.legs]; omega
      have q6:i<(List.range r.buses.length).length:=by simpa using hx
      obtain⟨b1,b2⟩:=JX (S.hold _ (List.getElem_mem q1)).1 (S.hold _ (List.getElem_mem q1)).2 S.unit.1 S.unit.2
      have b3:=S.tms _ (List.getElem_mem q3)
      have hmem:BP r a t i∈Cz r a t:=List.mem_append_left _ (List.mem_map_of_mem (List.mem_range.2 hx))
      have e:=Kz n r V _ (hok _ hmem) (by omega) (by omega)
      unfold BP at e
      simp only [Bp _ _ hx,Bp _ _ q1,Bp _ _ q2,Bp _ _ q3,Bp _ _ q4,Bp _ _ q5] at e
      simp only [hx,decide_true,cond_true,AC _ _ hx,AC _ _ q1,AC _ _ q2,AC _ _ q3,AC _ _ q4,AC _ _ q5,Option.bind_some]
      rw [FF (x:=a.holds[i]*r.unit) (by omega) (by omega),FF (by omega) (by omega),e,Option.bind_some,C8 _ _ (by simp; omega),Option.bind_some]
      rw [Cw i (by omega),Pe r a t V S hok m hm n (i+1) _ (by omega) (by omega) (by omega) (by simp; omega),Az q6,List.append_assoc]
      simp only [List.getElem_range,List.map_cons,BP,Bp _ _ hx,Bp _ _ q1,Bp _ _ q2,Bp _ _ q3,Bp _ _ q4,Bp _ _ q5]
      rfl
    · have:i=r.buses.length:=by omega
      simp [this]
theorem Pf (r:Af) (a:Am) (t:Bd) (V:Bg r) (S:Kr r a t) (hok:∀ p∈Cz r a t,EG r p) (m:Nat) (hm:60≤m):∀ (n i:Nat)(x:List (List Int)),r.spares.length+m<n+i→n≤900→i≤r.spares.length→x.length≤100+i →
    Eu n r a t x (i:Int)=some (x++(((List.range r.spares.length).drop i).filterMap (GL r a t)).map (Fw (r.legs.length+1)))
  | 0,i,x,h,_,hi,_=>by omega
  | n+1,i,x,h,hn9,hi,h1=>by
    rw [Eu,Bu]
    have:=S.ns
    have:=S.nb
    by_cases hx:i<r.spares.length
    · have q1:i<a.spares.length:=by rw [S.spares]; exact hx
      have q5:r.buses.length+i<t.legs.length:=by rw [S.legs]; omega
      have q6:i<(List.range r.spares.length).length:=by simpa using hx
      simp only [hx,decide_true,cond_true,AC _ _ hx,AC _ _ q1,Option.bind_some]
      rw [Az q6]
      simp only [List.getElem_range,List.filterMap_cons,GL,Bp _ _ hx,Bp _ _ q1,Bp _ _ q5]
      have IH:=Pf r a t V S hok m hm n (i+1)
      cases hs:a.spares[i] with
      | true =>
        have hmem:(⟨(r.spares[i]).stop,(r.spares[i]).tm,-1⟩,⟨t.legs[r.buses.length+i],0⟩)∈Cz r a t:=by
          refine List.mem_append_right _ (List.mem_filterMap.2 ⟨i,List.mem_range.2 hx,?_⟩)
          unfold GL
          rw [Bp _ _ hx,Bp _ _ q1,Bp _ _ q5,hs]
          rfl
        have e:=Kz n r V _ (hok _ hmem) (by omega) (by omega)
        simp only [] at e
        simp only [cond_true,if_true]
        rw [FF (x:=((r.buses.length:Nat):Int)+(i:Int)) (by omega) (by omega),show((r.buses.length:Nat):Int)+(i:Int)=((r.buses.length+i:Nat):Int) by omega,AC _ _ q5,Option.bind_some,e,Option.bind_some,C8 _ _ (by simp; omega),Option.bind_some]
        rw [Cw i (by omega),IH _ (by omega) (by omega) (by omega) (by simp; omega),List.append_assoc]
        rfl
      | false =>
        simp only [cond_false]
        rw [Cw i (by omega),IH _ (by omega) (by omega) (by omega) (by omega)]
        rfl
    · have:i=r.spares.length:=by omega
      have hd:(List.range r.spares.length).drop r.spares.length=[]:=List.drop_eq_nil_of_le (by simp)
      simp [this,hd]
theorem R7 (n:Nat) (r:Af) (a:Am) (t:Bd) (V:Bg r) (S:Kr r a t) (hok:∀ p∈Cz r a t,EG r p) (hn:80≤n) (hn2:n≤900):Lp n r a t=some ((Cz r a t).map (Fw (r.legs.length+1))):=by
  have:=S.nb
  have:=S.ns
  have e1:=Pe r a t V S hok 60 (by omega) n 0 [] (by omega) hn2 (by omega) rfl
  have e2:=Pf r a t V S hok 60 (by omega) n 0 ((List.range r.buses.length).map fun i=>Fw (r.legs.length+1) (BP r a t i)) (by omega) hn2 (by omega) (by simp; omega)
  simp only [Int.natCast_zero,List.nil_append,List.drop_zero] at e1 e2
  unfold Lp
  simp only [e1,Option.bind_some,e2,Cz,List.map_append,List.map_map]
  rfl
end Go.Proofs.Ytokchpjijlebiaa
namespace Go.Proofs.Ytokchpjijlebiaa
open Go Go.RowKit
def Ub (r:Af) (x:Int):Bool:=decide (r.fr≤x∧x≤r.to_)
theorem Jo (r:Af) (s st:Nat) (hs:s<st) (ps:List (List Int)) (hps:∀ p∈ps,p.length=st) (hb:ps.length≤50):∀ (n i:Nat)(acc:List Int),ps.length<n+i→i≤ps.length→acc.length≤100+i →
    Dg n r (s:Int) ps acc (i:Int)=some (acc++((ps.drop i).map fun p=>p[s]!).filter (Ub r))
  | 0,i,acc,h,hi,_=>by omega
  | n+1,i,acc,h,hi,ha=>by
    rw [Dg,Bu]
    by_cases hx:i<ps.length
    · have hp:=hps _ (List.getElem_mem hx)
      have hsp:s<(ps[i]).length:=by omega
      simp only [hx,decide_true,cond_true]
      rw [AC _ _ hx,Option.bind_some,AC _ _ hsp,Option.bind_some,HI,Option.bind_some,Az hx,List.map_cons,List.filter_cons,Bp _ _ hsp]
      show(bif Ub r _ then _ else _)=_
      cases hin:Ub r (ps[i])[s] with
      | true =>
        rw [cond_true,C8 _ _ (by simp; omega),Option.bind_some,Cw i (by omega),Jo r s st hs ps hps hb n (i+1) _ (by omega) (by omega) (by simp; omega)]
        simp
      | false =>
        rw [cond_false,Cw i (by omega),Jo r s st hs ps hps hb n (i+1) _ (by omega) (by omega) (by omega)]
        simp
    · have:i=ps.length:=by omega
      simp [this]
theorem MG (o x:List Int) (y:Nat) (hy:y<o.length) (hb:x.length≤100):∀ (n j:Nat)(b:Bool),x.length<n+j→j≤x.length→Dh n o x (y:Int) (j:Int) b=some (b || decide (o[y]∈x.drop j))
  | 0,j,b,h,hj=>by omega
  | n+1,j,b,h,hj=>by
    rw [Dh,Bu]
    by_cases hx:j<x.length
    · simp only [hx,decide_true,cond_true]
      have IH:=MG o x y hy hb n (j+1)
      cases b with
      | true =>
        rw [cond_true,Cw j (by omega),IH true (by omega) (by omega)]
        simp
      | false =>
        rw [cond_false,AC _ _ hx,Option.bind_some,AC _ _ hy,Option.bind_some,Cw j (by omega),IH _ (by omega) (by omega),Az hx,Bool.false_or]
        congr 1
        by_cases he:x[j]=o[y]
        · rw [beq_iff_eq.2 he,Bool.true_or,decide_eq_true (List.mem_cons.2 (.inl he.symm))]
        · rw [beq_eq_false_iff_ne.2 he,Bool.false_or,decide_eq_decide,List.mem_cons]
          exact⟨.inr,fun h=>h.resolve_left fun q=>he q.symm⟩
    · have:j=x.length:=by omega
      simp [this]
theorem MH (x:List Int) (v:Int) (hs:x.Pairwise (· < ·)) (hv:v ∉ x) (hb:x.length≤100):∀ (k n:Nat),k≤x.length→k<n→(∀ y∈x.drop k,v<y) →
    ∃ l,Di n (x.take k++v::x.drop k) (k:Int)=some l∧l.Pairwise (· < ·)∧(∀ y,y∈l↔y=v∨y∈x)∧l.length=x.length+1
  | 0,0,_,h,_=>by omega
  | 0,n+1,hk,_,hd=>by
    refine⟨v::x,?_,?_,fun y=>by simp,by simp⟩
    · rw [Di]; rfl
    · exact List.pairwise_cons.2 ⟨fun y hy=>hd y (by simpa using hy),hs⟩
  | k+1,0,_,h,_=>by omega
  | k+1,n+1,hk,hn,hd=>by
    have hkx:k<x.length:=by omega
    have hlen:(x.take (k+1)++v::x.drop (k+1)).length=x.length+1:=by simp; omega
    have g1:(x.take (k+1)++v::x.drop (k+1))[k+1]? = some v:=by
      rw [List.getElem?_append_right (by simp; omega)]
      simp [Nat.min_eq_left hk]
    have g0:(x.take (k+1)++v::x.drop (k+1))[k]? = some x[k]:=by
      rw [List.getElem?_append_left (by simp; omega),List.getElem?_take_of_lt (by omega),List.getElem?_eq_getElem hkx]
    rw [Di,decide_eq_true (by omega),cond_true,FF (x:=((k+1:Nat):Int)-1) (by omega) (by omega),show((k+1:Nat):Int)-1=(k:Int) by omega]
    simp only [UO,g1,g0,Option.bind_some]
    by_cases hlt:v<x[k]
    · have hu:upd (x.take (k+1)++v::x.drop (k+1)) ((k+1:Nat):Int) x[k]=some ((x.take (k+1)++v::x.drop (k+1)).set (k+1) x[k]):=Ry _ _ _ (by omega)
      have hu2:((x.take (k+1)++v::x.drop (k+1)).set (k+1) x[k]).set k v=x.take k++v::x.drop k:=by
        apply List.ext_getElem?
        intro j
        rw [List.getElem?_set,List.getElem?_set,List.length_set,hlen]
        rcases Nat.lt_trichotomy j k with hj | hj | hj
        · rw [if_neg (by omega),if_neg (by omega),List.getElem?_append_left (by simp; omega),List.getElem?_append_left (by simp; omega),List.getElem?_take_of_lt (by omega),List.getElem?_take_of_lt (by omega)]
        · subst hj
          rw [if_pos rfl,if_pos (by omega),List.getElem?_append_right (by rw [List.length_take]; omega)]
          simp [Nat.min_eq_left (Nat.le_of_lt hkx)]
        · rw [if_neg (by omega)]
          by_cases hj2:k+1=j
          · subst hj2
            rw [if_pos rfl,if_pos (by omega),List.getElem?_append_right (by simp; omega)]
            rw [show k+1-(x.take k).length=1 by simp; omega]
            simp
          · rw [if_neg hj2,List.getElem?_append_right (by simp; omega),List.getElem?_append_right (by simp; omega)]
            rw [show j-(x.take (k+1)).length=(j-k-2)+1 by simp; omega,show j-(x.take k).length=(j-k-1)+1 by simp; omega,List.getElem?_cons_succ,List.getElem?_cons_succ,List.getElem?_drop,List.getElem?_drop]
            congr 1; omega
      have hg:((x.take (k+1)++v::x.drop (k+1)).set (k+1) x[k])[k]? = some x[k]:=by
        rw [List.getElem?_set,if_neg (by omega),g0]
      rw [decide_eq_true hlt,cond_true,hu]
      simp only [Option.bind_some]
      rw [hg,Option.bind_some,Ry _ _ _ (by rw [List.length_set,hlen]; omega),Option.bind_some,hu2]
      refine MH x v hs hv hb k n (by omega) (by omega) fun y hy=>?_
      rw [Az hkx] at hy
      rcases List.mem_cons.1 hy with rfl | hy
      · exact hlt
      · exact hd y hy
    · rw [decide_eq_false hlt,cond_false]
      have hxv:x[k]<v:=by
        have:x[k]≠v:=fun q=>hv (by rw [← q]; exact List.getElem_mem hkx)
        omega
      refine⟨_,rfl,?_,fun y=>?_,hlen⟩
      · rw [List.pairwise_append,List.pairwise_cons]
        refine⟨hs.sublist (List.take_sublist _ _),⟨hd,hs.sublist (List.drop_sublist _ _)⟩,fun y hy z hz=>?_⟩
        have hyv:y<v:=by
          obtain⟨j,hj,rfl⟩:=List.mem_iff_getElem.1 hy
          rw [List.length_take] at hj
          rw [List.getElem_take]
          rcases Nat.lt_or_ge j k with h' | h'
          · have:=List.pairwise_iff_getElem.1 hs j k (by omega) hkx h'
            omega
          · have:j=k:=by omega
            subst this; exact hxv
        rcases List.mem_cons.1 hz with rfl | hz
        · exact hyv
        · have:=hd z hz; omega
      · rw [List.mem_append,List.mem_cons]
        have:=List.take_append_drop (k+1) x
        constructor
        · rintro(h | rfl | h)
          · exact .inr (List.mem_of_mem_take h)
          · exact .inl rfl
          · exact .inr (List.mem_of_mem_drop h)
        · rintro(rfl | h)
          · exact .inr (.inl rfl)
          · rw [← this] at h
            rcases List.mem_append.1 h with h | h
            · exact .inl h
            · exact .inr (.inr h)
theorem Jp (o:List Int) (ho:o.length≤20):∀ (n i:Nat)(x:List Int),o.length+30<n+i→i≤o.length→x.Pairwise (· < ·)→x.length≤i→∃ l,Dj n o x (i:Int)=some l∧l.Pairwise (· < ·)∧(∀ y,y∈l↔y∈x∨y∈o.drop i)∧l.length≤o.length
  | 0,i,x,h,hi,_,_=>by omega
  | n+1,i,x,h,hi,hs,hl=>by
    rw [Dj,Bu]
    by_cases hx:i<o.length
    · simp only [hx,decide_true,cond_true]
      have e3:=MG o x i hx (by omega) n 0 false (by omega) (by omega)
      rw [Int.natCast_zero,List.drop_zero,Bool.false_or] at e3
      rw [e3,Option.bind_some]
      by_cases hm:o[i]∈x
      · rw [decide_eq_true hm,cond_true,Cw i (by omega)]
        obtain⟨l,h1,h2,h3,h4⟩:=Jp o ho n (i+1) x (by omega) (by omega) hs (by omega)
        refine⟨l,h1,h2,fun y=>?_,h4⟩
        rw [h3,Az hx,List.mem_cons]
        constructor
        · rintro(h | h)
          · exact .inl h
          · exact .inr (.inr h)
        · rintro(h | rfl | h)
          · exact .inl h
          · exact .inl hm
          · exact .inr h
      · rw [decide_eq_false hm,cond_false,AC _ _ hx,Option.bind_some,C8 _ _ (by simp; omega),Option.bind_some]
        obtain⟨l0,g1,g2,g3,g4⟩:=MH x o[i] hs hm (by omega) x.length n (Nat.le_refl _) (by omega) (by simp)
        rw [List.take_length,List.drop_length] at g1
        rw [List.length_append,List.length_singleton,FF (x:=((x.length+1:Nat):Int)-1) (by omega) (by omega),show((x.length+1:Nat):Int)-1=(x.length:Int) by omega,g1,Option.bind_some,Cw i (by omega)]
        obtain⟨l,h1,h2,h3,h4⟩:=Jp o ho n (i+1) l0 (by omega) (by omega) g2 (by omega)
        refine⟨l,h1,h2,fun y=>?_,h4⟩
        rw [h3,g3,Az hx,List.mem_cons]
        constructor
        · rintro((rfl | h) | h)
          · exact .inr (.inl rfl)
          · exact .inl h
          · exact .inr (.inr h)
        · rintro(h | rfl | h)
          · exact .inl (.inr h)
          · exact .inl (.inl rfl)
          · exact .inr h
    · have hi':i=o.length:=by omega
      have hd:o.drop i=[]:=List.drop_eq_nil_of_le (by omega)
      simp only [hx,decide_false,cond_false]
      exact⟨x,rfl,hs,fun y=>by rw [hd]; simp,by omega⟩
def IX:List Int→Int
  | a::b::r=>max (b-a) (IX (b::r))
  | _=>0
theorem Jq:∀ l:List Int,0≤IX l
  | []=>Int.le_refl _
  | [_]=>Int.le_refl _
  | a::b::r=>by
    have:=Jq (b::r)
    unfold IX
    omega
theorem Pg (l:List Int) (hb:l.length≤100) (hr:∀ x∈l,0≤x∧x≤10000):∀ (n i:Nat)(acc:Int),l.length+1<n+i→1≤i→(i≤l.length∨i=1)→0≤acc→EU n l (i:Int) acc=some (max acc (IX (l.drop (i-1))))
  | 0,i,acc,h,h1,hi,_=>by omega
  | n+1,i,acc,h,h1,hi,h0=>by
    rw [EU,Bu]
    by_cases hx:i<l.length
    · obtain⟨j,rfl⟩:∃ j,i=j+1:=⟨i-1,by omega⟩
      have hj:j<l.length:=by omega
      have b1:=hr _ (List.getElem_mem hx)
      have b2:=hr _ (List.getElem_mem hj)
      simp only [hx,decide_true,cond_true]
      rw [AC _ _ hx,Option.bind_some,FF (x:=((j+1:Nat):Int)-1) (by omega) (by omega),show((j+1:Nat):Int)-1=(j:Int) by omega,AC _ _ hj,Option.bind_some,FF (x:=l[j+1]-l[j]) (by omega) (by omega),Cw (j+1) (by omega)]
      rw [Pg l hb hr n (j+1+1) _ (by omega) (by omega) (by omega) (by split <;> omega)]
      rw [show j+1-1=j by omega,show j+1+1-1=j+1 by omega,Az hj,Az hx]
      show some (max (if l[j+1]-l[j]>acc then l[j+1]-l[j] else acc) (IX (l[j+1]::l.drop (j+1+1))))=some (max acc (max (l[j+1]-l[j]) (IX (l[j+1]::l.drop (j+1+1)))))
      congr 1
      split <;> omega
    · simp only [hx,decide_false,cond_false,Option.some.injEq]
      have:IX (l.drop (i-1))=0:=by
        have hl:(l.drop (i-1)).length≤1:=by rw [List.length_drop]; omega
        cases hd:l.drop (i-1) with
        | nil=>rfl
        | cons a t =>
          cases t with
          | nil=>rfl
          | cons b t=>rw [hd] at hl; simp at hl
      rw [this]
      omega
theorem Sj {g:Int} (h0:0≤g):∀ {l:List Int},l.Pairwise (· < ·)→(∀ a∈l,∀ b∈l,a<b→(∀ c∈l,¬ (a<c∧c<b))→b-a≤g)→IX l≤g
  | [],_,_=>h0
  | [_],_,_=>h0
  | a::b::r,hs,h=>by
    rw [List.pairwise_cons] at hs
    have hab:=hs.1 b (by simp)
    have h1:=h a (by simp) b (by simp) hab fun c hc hcc=>by
      rcases List.mem_cons.1 hc with rfl | hc
      · omega
      · rcases List.mem_cons.1 hc with rfl | hc
        · omega
        · have:=(List.pairwise_cons.1 hs.2).1 c hc
          omega
    have h2:IX (b::r)≤g:=Sj h0 hs.2 fun x hx y hy hxy hno=>h x (List.mem_cons_of_mem _ hx) y (List.mem_cons_of_mem _ hy) hxy fun c hc hcc=>by
      rcases List.mem_cons.1 hc with rfl | hc
      · have:=hs.1 x hx; omega
      · exact hno c hc hcc
    unfold IX
    omega
theorem Sk {m e:Int}:∀ {l:List Int},l.Pairwise (· < ·)→m∈l→m<e→(∃ b∈l,e≤b)→(∀ c∈l,¬ (m<c∧c<e))→e-m≤IX l
  | [],_,hm,_,_,_=>by simp at hm
  | [a],hs,hm,he,⟨b,hb,heb⟩,_=>by
    simp at hm hb
    omega
  | a::b::r,hs,hm,he,⟨y,hy,hye⟩,hno=>by
    rw [List.pairwise_cons] at hs
    have hab:=hs.1 b (by simp)
    have hbe:=hno b (by simp)
    rcases List.mem_cons.1 hm with rfl | hm
    · unfold IX
      omega
    · have hm2:=hs.1 m hm
      have:=Sk hs.2 hm he (by
        rcases List.mem_cons.1 hy with rfl | hy
        · omega
        · exact⟨y,hy,hye⟩) fun c hc=>hno c (List.mem_cons_of_mem _ hc)
      unfold IX
      omega
def Fb (r:Af) (a:Am) (t:Bd) (s:Nat):List Int:=r.fr::r.to_::(((Cz r a t).map (Fw (r.legs.length+1))).map fun p=>p[s]!).filter (Ub r)
theorem PO (n:Nat) (r:Af) (a:Am) (t:Bd) (V:Bg r) (S:Kr r a t) (hok:∀ p∈Cz r a t,EG r p) (s:Nat) (hs:s<r.legs.length+1) (hn:90≤n) (hn2:n≤900) :
    ∃ l,HQ n r a t (s:Int)=some l∧l.Pairwise (· < ·)∧(∀ y,y∈l↔y∈Fb r a t s)∧l.length≤20:=by
  have:=S.nb
  have:=S.ns
  have hlt:(Cz r a t).length≤r.buses.length+r.spares.length:=by
    unfold Cz
    rw [List.length_append,List.length_map,List.length_range]
    have:=List.length_filterMap_le (GL r a t) (List.range r.spares.length)
    rw [List.length_range] at this
    omega
  unfold HQ
  rw [R7 n r a t V S hok (by omega) hn2,Option.bind_some]
  have e1:=Jo r s (r.legs.length+1) hs ((Cz r a t).map (Fw (r.legs.length+1))) (fun p hp=>by
    obtain⟨q,_,rfl⟩:=List.mem_map.1 hp
    unfold Fw; simp) (by rw [List.length_map]; omega) n 0 [r.fr,r.to_] (by rw [List.length_map]; omega) (by omega) (by simp)
  rw [Int.natCast_zero,List.drop_zero] at e1
  rw [e1,Option.bind_some]
  have hlen:([r.fr,r.to_]++(((Cz r a t).map (Fw (r.legs.length+1))).map fun p=>p[s]!).filter (Ub r)).length≤20:=by
    rw [List.length_append]
    have:=List.length_filter_le (Ub r) (((Cz r a t).map (Fw (r.legs.length+1))).map fun p=>p[s]!)
    rw [List.length_map,List.length_map] at this
    simp only [List.length_cons,List.length_nil]
    omega
  obtain⟨l,h1,h2,h3,h4⟩:=Jp _ hlen n 0 [] (by omega) (by omega) List.Pairwise.nil (by simp)
  rw [Int.natCast_zero] at h1
  rw [List.drop_zero] at h3
  rw [h1,Option.bind_some]
  exact⟨l,rfl,h2,fun y=>by rw [h3]; simp [Fb],by omega⟩
theorem R8 (n:Nat) (r:Af) (a:Am) (t:Bd) (V:Bg r) (S:Kr r a t) (hok:∀ p∈Cz r a t,EG r p) (s:Nat) (hs:s<r.legs.length+1) (hn:90≤n) (hn2:n≤900) :
    ∃ l,Lq n r a t (s:Int)=some (IX l)∧l.Pairwise (· < ·)∧∀ y,y∈l↔y∈Fb r a t s:=by
  obtain⟨l,h1,h2,h3,h4⟩:=PO n r a t V S hok s hs hn hn2
  refine⟨l,?_,h2,h3⟩
  have hlk:=V.looked
  unfold Lq
  rw [h1,Option.bind_some]
  have e:=Pg l (by omega) (fun x hx=>by
    have:=(h3 x).1 hx
    unfold Fb at this
    rw [List.mem_cons,List.mem_cons,List.mem_filter] at this
    rcases this with rfl | rfl | ⟨_,h⟩
    · omega
    · omega
    · unfold Ub at h
      have:=of_decide_eq_true h
      omega) n 1 0 (by omega) (Nat.le_refl _) (.inr rfl) (Int.le_refl _)
  rw [show((1:Nat):Int)=1 from rfl,Nat.sub_self,List.drop_zero] at e
  rw [e,Option.bind_some,Option.some.injEq]
  have:=Jq l
  omega
end Go.Proofs.Ytokchpjijlebiaa
namespace Go.Proofs.Ytokchpjijlebiaa
open Go Go.RowKit
structure G1 (r:Af) (t:Bd):Prop where
  tm:t.tm.length=r.buses.length
  tt:t.turns.length=r.buses.length
  legs:t.legs.length=r.buses.length+r.spares.length
  tms:∀ i<r.buses.length,(r.buses[i]!).tm.lo≤t.tm[i]!∧t.tm[i]!≤(r.buses[i]!).tm.hi
  tts:∀ i<r.buses.length,r.turn.lo≤t.turns[i]!∧t.turns[i]!≤r.turn.hi
  ll:∀ i<r.buses.length+r.spares.length,(t.legs[i]!).length=r.legs.length
  leg:∀ i<r.buses.length+r.spares.length,∀ (k:Nat)(x:Rg)(d:Int),r.legs[k]? = some x→(t.legs[i]!)[k]? = some d→x.lo≤d∧d≤x.hi
theorem G1.sized {r:Af} {t:Bd} (h:G1 r t) (V:Bg r) {a:Am} (A:CZ r a):Kr r a t:=by
  refine⟨by have:=V.nb; omega,by have:=V.ns; omega,A.holds,A.turns,A.spares,h.tm,h.tt,h.legs,fun x hx=>?_,V.unit,fun x hx=>?_⟩
  · obtain⟨i,hi,rfl⟩:=List.mem_iff_getElem.1 hx
    have:=A.hold i (by rw [← A.holds]; exact hi)
    rwa [Bp _ _ hi] at this
  · obtain⟨i,hi,rfl⟩:=List.mem_iff_getElem.1 hx
    have hib:i<r.buses.length:=by rw [← h.tm]; exact hi
    have:=h.tms i hib
    rw [Bp _ _ hi,Bp _ _ hib] at this
    have:=V.buses _ (List.getElem_mem hib)
    omega
theorem Sl {r:Af} {t:Bd} (h:G1 r t) {i:Nat} (hi:i<r.buses.length+r.spares.length):∀ (k:Nat)(d d':Int),(r.legs.map Rg.lo)[k]? = some d→(t.legs[i]!)[k]? = some d'→d≤d':=fun k d d' h1 h2=>by
  rw [List.getElem?_map] at h1
  obtain⟨x,hx,rfl⟩:=Option.map_eq_some_iff.1 h1
  exact(h.leg i hi k x d' hx h2).1
theorem Sm {r:Af} {t:Bd} (h:G1 r t) {i:Nat} (hi:i<r.buses.length+r.spares.length):∀ (k:Nat)(d d':Int),(t.legs[i]!)[k]? = some d→(r.legs.map Rg.hi)[k]? = some d'→d≤d':=fun k d d' h1 h2=>by
  rw [List.getElem?_map] at h2
  obtain⟨x,hx,rfl⟩:=Option.map_eq_some_iff.1 h2
  exact(h.leg i hi k x d hx h1).2
theorem G1.small {r:Af} {t:Bd} (h:G1 r t) (V:Bg r) {i:Nat} (hi:i<r.buses.length+r.spares.length):(t.legs[i]!).length≤20∧∀ d∈t.legs[i]!,0≤d∧d≤300:=by
  have hl:=h.ll i hi
  have:=V.nl
  refine⟨by omega,fun d hd=>?_⟩
  obtain⟨k,hk,rfl⟩:=List.mem_iff_getElem.1 hd
  have hkr:k<r.legs.length:=by omega
  have:=h.leg i hi k _ _ (List.getElem?_eq_getElem hkr) (List.getElem?_eq_getElem hk)
  have:=V.legs _ (List.getElem_mem hkr)
  omega
theorem G1.busT {r:Af} {t:Bd} (h:G1 r t) (V:Bg r) {a:Am} (A:CZ r a) {i:Nat} (hi:i<r.buses.length):EG r (BP r a t i)∧Tf (En r a Rg.lo i) (BP r a t i)∧Tf (BP r a t i) (En r a Rg.hi i):=by
  have o:=Ld DH.low V A i hi
  have h1:=h.tms i hi
  have h2:=h.tts i hi
  have h3:=h.ll i (by omega)
  have h4:=h.small V (i:=i) (by omega)
  have hT:=V.turn
  have hb:=V.buses _ (List.getElem_mem hi)
  have hh:=A.hold i hi
  have hm:=JX hh.1 hh.2 V.unit.1 V.unit.2
  rw [Bp _ _ hi] at h1
  refine⟨⟨⟨by simp only [BP]; omega,by simp only [BP]; omega,h4.1,h4.2⟩,h3,o.t,by simp only [BP]; omega,by simp only [BP]; omega,o.s0,o.s1⟩,⟨rfl,rfl,?_,h2.1,(by rw [show(BP r a t i).2.legs=t.legs[i]! from rfl,h3]; simp [En]),Sl h (by omega)⟩,⟨rfl,rfl,?_,h2.2,(by rw [show(BP r a t i).2.legs=t.legs[i]! from rfl,h3]; simp [En]),Sm h (by omega)⟩⟩ <;>
  · simp only [En,BP,Bp _ _ hi]; omega
theorem G1.spT {r:Af} {t:Bd} (h:G1 r t) (V:Bg r) {j:Nat} (hj:j<r.spares.length):EG r (⟨(r.spares[j]!).stop,(r.spares[j]!).tm,-1⟩,⟨t.legs[r.buses.length+j]!,0⟩)∧Tf (IG r Rg.lo j) (⟨(r.spares[j]!).stop,(r.spares[j]!).tm,-1⟩,⟨t.legs[r.buses.length+j]!,0⟩)∧Tf (⟨(r.spares[j]!).stop,(r.spares[j]!).tm,-1⟩,⟨t.legs[r.buses.length+j]!,0⟩) (IG r Rg.hi j):=by
  have o:=Ny DH.low V j hj
  have h3:=h.ll (r.buses.length+j) (by omega)
  have h4:=h.small V (i:=r.buses.length+j) (by omega)
  exact⟨⟨⟨Int.le_refl _,by simp,h4.1,h4.2⟩,h3,o.t,o.tm0,o.tm1,o.s0,o.s1⟩,⟨rfl,rfl,Int.le_refl _,Int.le_refl _,(by simp only []; rw [h3]; simp [IG]),Sl h (by omega)⟩,⟨rfl,rfl,Int.le_refl _,Int.le_refl _,(by simp only []; rw [h3]; simp [IG]),Sm h (by omega)⟩⟩
theorem GG {r:Af} {a:Am} {t:Bd} {p:Bi×A5}:p∈Cz r a t↔(∃ i<r.buses.length,p=BP r a t i)∨∃ j<r.spares.length,a.spares[j]! = true∧p=(⟨(r.spares[j]!).stop,(r.spares[j]!).tm,-1⟩,⟨t.legs[r.buses.length+j]!,0⟩):=by
  unfold Cz
  rw [List.mem_append,List.mem_map,List.mem_filterMap]
  constructor
  · rintro(⟨i,hi,rfl⟩ | ⟨j,hj,h⟩)
    · exact .inl ⟨i,List.mem_range.1 hi,rfl⟩
    · unfold GL at h
      split at h
      · rename_i hs
        cases h
        exact .inr ⟨j,List.mem_range.1 hj,hs,rfl⟩
      · cases h
  · rintro(⟨i,hi,rfl⟩ | ⟨j,hj,hs,rfl⟩)
    · exact .inl ⟨i,List.mem_range.2 hi,rfl⟩
    · exact .inr ⟨j,List.mem_range.2 hj,by unfold GL; rw [if_pos hs]⟩
theorem Il {r:Af} {a:Am} {s:Nat} {q:Rg}:q∈AX r a s↔(∃ i<r.buses.length,Gq ((r.legs.length:Int)+1) (En r a Rg.lo i) s=some q.lo∧Gq ((r.legs.length:Int)+1) (En r a Rg.hi i) s=some q.hi) ∨
    ∃ j<r.spares.length,a.spares[j]! = true∧Gq ((r.legs.length:Int)+1) (IG r Rg.lo j) s=some q.lo∧Gq ((r.legs.length:Int)+1) (IG r Rg.hi j) s=some q.hi:=by
  unfold AX G0
  rw [List.mem_filterMap]
  constructor
  · rintro⟨P,hP,h⟩
    rw [Gc] at h
    rcases List.mem_append.1 hP with hP | hP
    · obtain⟨i,hi,rfl⟩:=List.mem_map.1 hP
      exact .inl ⟨i,List.mem_range.1 hi,h⟩
    · obtain⟨j,hj,hc⟩:=List.mem_filterMap.1 hP
      split at hc
      · rename_i hs
        cases hc
        exact .inr ⟨j,List.mem_range.1 hj,hs,h⟩
      · cases hc
  · rintro(⟨i,hi,h⟩ | ⟨j,hj,hs,h⟩)
    · exact⟨_,List.mem_append_left _ (List.mem_map_of_mem (List.mem_range.2 hi)),Gc.2 h⟩
    · exact⟨_,List.mem_append_right _ (List.mem_filterMap.2 ⟨j,List.mem_range.2 hj,by rw [if_pos hs]⟩),Gc.2 h⟩
theorem G1.ok {r:Af} {t:Bd} (h:G1 r t) (V:Bg r) {a:Am} (A:CZ r a):∀ p∈Cz r a t,EG r p:=fun p hp=>by
  rcases GG.1 hp with⟨i,hi,rfl⟩ | ⟨j,hj,_,rfl⟩
  · exact(h.busT V A hi).1
  · exact(h.spT V hj).1
theorem G1.pass {r:Af} {t:Bd} (h:G1 r t) (V:Bg r) {a:Am} (A:CZ r a) {s:Nat} {q:Rg} (hq:q∈AX r a s):∃ p∈Cz r a t,∃ x,Gq ((r.legs.length:Int)+1) p s=some x∧q.lo≤x∧x≤q.hi:=by
  rcases Il.1 hq with⟨i,hi,h1,h2⟩ | ⟨j,hj,hs,h1,h2⟩
  · obtain⟨o,l1,l2⟩:=h.busT V A hi
    have o1:=(Ld DH.low V A i hi).t
    rcases l1.at o1 s with⟨e,_⟩ | ⟨u,x,e1,e2,e3⟩
    · rw [e] at h1; cases h1
    · rcases l2.at o.t s with⟨e,_⟩ | ⟨x',v,f1,f2,f3⟩
      · rw [e] at e2; cases e2
      · rw [e1] at h1; cases h1
        rw [f2] at h2; cases h2
        rw [f1] at e2; cases e2
        exact⟨_,GG.2 (.inl ⟨i,hi,rfl⟩),_,f1,e3,f3⟩
  · obtain⟨o,l1,l2⟩:=h.spT V hj
    have o1:=(Ny DH.low V j hj).t
    rcases l1.at o1 s with⟨e,_⟩ | ⟨u,x,e1,e2,e3⟩
    · rw [e] at h1; cases h1
    · rcases l2.at o.t s with⟨e,_⟩ | ⟨x',v,f1,f2,f3⟩
      · rw [e] at e2; cases e2
      · rw [e1] at h1; cases h1
        rw [f2] at h2; cases h2
        rw [f1] at e2; cases e2
        exact⟨_,GG.2 (.inr ⟨j,hj,hs,rfl⟩),_,f1,e3,f3⟩
theorem Gd {r:Af} (V:Bg r) {a:Am} {t:Bd} {s:Nat} (hs:s<r.legs.length+1) {y:Int}:y∈Fb r a t s↔y=r.fr∨y=r.to_∨(∃ p∈Cz r a t,Gq ((r.legs.length:Int)+1) p s=some y)∧r.fr≤y∧y≤r.to_:=by
  have hl:=V.looked
  unfold Fb
  rw [List.mem_cons,List.mem_cons,List.mem_filter,List.mem_map]
  refine or_congr Iff.rfl (or_congr Iff.rfl ?_)
  have key:∀ p:Bi×A5,(Fw (r.legs.length+1) p)[s]! = (Gq ((r.legs.length:Int)+1) p s).getD (-1):=fun p=>by
    rw [Bp _ _ (by unfold Fw; simp; omega)]
    unfold Fw
    rw [List.getElem_map,List.getElem_range]
    rfl
  constructor
  · rintro⟨⟨l,hl1,rfl⟩,hin⟩
    obtain⟨p,hp,rfl⟩:=List.mem_map.1 hl1
    unfold Ub at hin
    have hin:=of_decide_eq_true hin
    rw [key] at hin ⊢
    cases he:Gq ((r.legs.length:Int)+1) p s with
    | none=>rw [he] at hin; simp at hin; omega
    | some x=>rw [he] at hin; exact⟨⟨p,hp,he⟩,hin⟩
  · rintro⟨⟨p,hp,he⟩,hin⟩
    exact⟨⟨_,List.mem_map_of_mem hp,by rw [key,he]; rfl⟩,by unfold Ub; exact decide_eq_true hin⟩
theorem SR {r:Af} {t:Bd} (h:G1 r t) (V:Bg r) {a:Am} (A:CZ r a) {s:Nat} (hs:s<r.legs.length+1) {l:List Int} (hl:l.Pairwise (· < ·)) (hm:∀ y,y∈l↔y∈Fb r a t s):IX l≤WR r.fr r.to_ (AX r a s):=by
  have hlk:=V.looked
  have hin:∀ y∈l,r.fr≤y∧y≤r.to_:=fun y hy=>by
    rcases(Gd V hs).1 ((hm y).1 hy) with rfl | rfl | ⟨_,h⟩
    · omega
    · omega
    · exact h
  refine Sj (Kb _ _ _) hl fun x hx y hy hxy hno=>?_
  have hx':=hin x hx
  have hy':=hin y hy
  have h1:=Tn (l:=AX r a s) hx'.1 hx'.2
  have:y≤Ca x r.to_ (AX r a s):=DL.2 ⟨hy'.2,fun q hq hqx=>by
    obtain⟨p,hp,z,hz,hz1,hz2⟩:=h.pass V A hq
    rcases Int.lt_or_le r.to_ z with hzt | hzt
    · omega
    · have hzm:z∈l:=(hm z).2 ((Gd V hs).2 (.inr (.inr ⟨⟨p,hp,hz⟩,by omega,hzt⟩)))
      have:=hno z hzm
      omega⟩
  omega
def eE (b:Bool) (x:Rg):Int:=if b then x.hi else x.lo
def DM (r:Af) (late:Nat→Bool):Bd:=⟨(List.range r.buses.length).map fun i=>eE (late i) (r.buses[i]!).tm,(List.range r.buses.length).map fun i=>eE (late i) r.turn,(List.range (r.buses.length+r.spares.length)).map fun i=>r.legs.map (eE (late i))⟩
theorem Tq (b:Bool):DH (eE b):=by cases b; exact DH.low; exact DH.high
theorem Ep {β:Type} [Inhabited β] (f:Nat→β) (n i:Nat) (h:i<n):((List.range n).map f)[i]! = f i:=by
  rw [Bp _ _ (by simpa using h),List.getElem_map,List.getElem_range]
theorem PP {r:Af} (V:Bg r) (late:Nat→Bool):G1 r (DM r late):=by
  refine⟨by simp [DM],by simp [DM],by simp [DM],fun i hi=>?_,fun i hi=>?_,fun i hi=>?_,fun i hi k x d hx hd=>?_⟩
  · unfold DM
    simp only []
    rw [Ep _ _ _ hi,Bp _ _ hi]
    have:=V.buses _ (List.getElem_mem hi)
    exact(Tq (late i)).le _ this.2.2.2.1
  · unfold DM
    simp only []
    rw [Ep _ _ _ hi]
    exact(Tq (late i)).le _ V.turn.2.1
  · unfold DM
    simp only []
    rw [Ep _ _ _ hi]
    simp
  · unfold DM at hd
    simp only [] at hd
    rw [Ep _ _ _ hi,List.getElem?_map,hx] at hd
    cases hd
    exact(Tq (late i)).le _ (V.legs x (List.mem_of_getElem? hx)).2.1
theorem MI {r:Af} {a:Am} {late:Nat→Bool} {i:Nat} (hi:i<r.buses.length):BP r a (DM r late) i=En r a (eE (late i)) i:=by
  unfold BP En DM
  simp only []
  rw [Ep _ _ _ hi,Ep _ _ _ hi,Ep _ _ _ (by omega)]
theorem N8 {r:Af} {late:Nat→Bool} {j:Nat} (hj:j<r.spares.length):((⟨(r.spares[j]!).stop,(r.spares[j]!).tm,-1⟩,⟨(DM r late).legs[r.buses.length+j]!,0⟩):Bi×A5)=IG r (eE (late (r.buses.length+j))) j:=by
  unfold IG DM
  simp only []
  rw [Ep _ _ _ (by omega)]
def Im (r:Af) (a:Am) (s:Nat) (m:Int) (i:Nat):Bool :=
  match Gq ((r.legs.length:Int)+1) (if i<r.buses.length then En r a Rg.lo i else IG r Rg.lo (i-r.buses.length)) s with
  | some x=>decide (m<x)
  | none=>false
theorem SS {r:Af} (V:Bg r) {a:Am} (A:CZ r a) {s:Nat} (hs:s<r.legs.length+1) {m:Int} (hm:m∈E8 r.fr r.to_ (AX r a s)) {late:Nat→Bool} (hlate:∀ i<r.buses.length+r.spares.length,late i=Im r a s m i) {l:List Int} (hl:l.Pairwise (· < ·)) (hml:∀ y,y∈l↔y∈Fb r a (DM r late) s):Ca m r.to_ (AX r a s)-m≤IX l:=by
  have hlk:=V.looked
  have hmb:=Hk hlk.2.1 hm
  have hst:=Ig m r.to_ (AX r a s)
  rcases Int.lt_or_le m (Ca m r.to_ (AX r a s)) with hlt | hle
  · refine Sk hl ?_ hlt ⟨r.to_,(hml _).2 ((Gd V hs).2 (.inr (.inl rfl))),hst⟩ fun c hc hcc=>?_
    · -- the Qd is one of the truth
      refine(hml m).2 ((Gd V hs).2 ?_)
      rcases List.mem_cons.1 hm with rfl | hm
      · exact .inl rfl
      · obtain⟨q,hq,rfl⟩:=List.mem_map.1 hm
        have hq:=(List.mem_filter.1 hq).1
        refine .inr (.inr ⟨?_,hmb⟩)
        rcases Il.1 hq with⟨i,hi,h1,h2⟩ | ⟨j,hj,hsp,h1,h2⟩
        · have e:late i=false:=by
            rw [hlate i (by omega)]
            unfold Im
            rw [if_pos hi,h1]
            exact decide_eq_false (by omega)
          exact⟨_,GG.2 (.inl ⟨i,hi,rfl⟩),by rw [MI hi,e]; exact h1⟩
        · have e:late (r.buses.length+j)=false:=by
            rw [hlate _ (by omega)]
            unfold Im
            rw [if_neg (by omega),show r.buses.length+j-r.buses.length=j by omega,h1]
            exact decide_eq_false (by omega)
          exact⟨_,GG.2 (.inr ⟨j,hj,hsp,rfl⟩),by rw [N8 hj,e]; exact h1⟩
    · rcases(Gd V hs).1 ((hml c).1 hc) with rfl | rfl | ⟨⟨p,hp,hpc⟩,_⟩
      · omega
      · omega
      · rcases GG.1 hp with⟨i,hi,rfl⟩ | ⟨j,hj,hsp,rfl⟩
        · rw [MI hi] at hpc
          have hli:=hlate i (by omega)
          unfold Im at hli
          rw [if_pos hi] at hli
          cases hb:late i with
          | false =>
            rw [hb] at hpc hli
            have hpc:Gq ((r.legs.length:Int)+1) (En r a Rg.lo i) s=some c:=hpc
            rw [hpc] at hli
            have:=of_decide_eq_false hli.symm
            omega
          | true =>
            rw [hb] at hpc hli
            have hpc:Gq ((r.legs.length:Int)+1) (En r a Rg.hi i) s=some c:=hpc
            cases hlo:Gq ((r.legs.length:Int)+1) (En r a Rg.lo i) s with
            | none=>rw [hlo] at hli; cases hli
            | some x =>
              rw [hlo] at hli
              have hx:=of_decide_eq_true hli.symm
              have:=(DL.1 (Int.le_refl (Ca m r.to_ (AX r a s)))).2 ⟨x,c⟩ (Il.2 (.inl ⟨i,hi,hlo,hpc⟩)) hx
              simp only [] at this
              omega
        · rw [N8 hj] at hpc
          have hli:=hlate (r.buses.length+j) (by omega)
          unfold Im at hli
          rw [if_neg (by omega),show r.buses.length+j-r.buses.length=j by omega] at hli
          cases hb:late (r.buses.length+j) with
          | false =>
            rw [hb] at hpc hli
            have hpc:Gq ((r.legs.length:Int)+1) (IG r Rg.lo j) s=some c:=hpc
            rw [hpc] at hli
            have:=of_decide_eq_false hli.symm
            omega
          | true =>
            rw [hb] at hpc hli
            have hpc:Gq ((r.legs.length:Int)+1) (IG r Rg.hi j) s=some c:=hpc
            cases hlo:Gq ((r.legs.length:Int)+1) (IG r Rg.lo j) s with
            | none=>rw [hlo] at hli; cases hli
            | some x =>
              rw [hlo] at hli
              have hx:=of_decide_eq_true hli.symm
              have:=(DL.1 (Int.le_refl (Ca m r.to_ (AX r a s)))).2 ⟨x,c⟩ (Il.2 (.inr ⟨j,hj,hsp,hlo,hpc⟩)) hx
              simp only [] at this
              omega
  · have:=Jq l
    omega
end Go.Proofs.Ytokchpjijlebiaa
namespace Go.Proofs.Ytokchpjijlebiaa
open Go Go.RowKit
theorem Uc (i:Nat) (h:i≤1000):IntKind.u64.wrap (i:Int)=(i:Int):=by
  simp [IntKind.wrap,IntKind.bits,IntKind.signed]; omega
def Mg (L i:Nat):Bool:=decide (L / 2 ^ i % 2=1)
theorem Tr (L i:Nat) (h:i≤20):((Int.tmod (Int.fdiv (L:Int) (2 ^ (min (IntKind.u64.wrap (i:Int)).toNat 64))) 2) == 1)=Mg L i:=by
  rw [Uc i (by omega),Int.toNat_natCast,Nat.min_eq_left (by omega)]
  have e1:((2:Int) ^ i)=((2 ^ i:Nat):Int):=by simp
  rw [e1]
  have e2:Int.fdiv (L:Int) ((2 ^ i:Nat):Int)=((L / 2 ^ i:Nat):Int):=by
    rw [Int.fdiv_eq_ediv_of_nonneg _ (Int.natCast_nonneg _)]; rfl
  rw [e2]
  have e3:Int.tmod ((L / 2 ^ i:Nat):Int) 2=((L / 2 ^ i % 2:Nat):Int):=rfl
  rw [e3]
  unfold Mg
  by_cases hb:L / 2 ^ i % 2=1
  · rw [hb]; rfl
  · rw [decide_eq_false hb,beq_eq_false_iff_ne]
    omega
theorem N9:∀ (k:Nat)(late:Nat→Bool),∃ N<2 ^ k,∀ i<k,Mg N i=late i
  | 0,_=>⟨0,by simp,fun i h=>absurd h (Nat.not_lt_zero _)⟩
  | k+1,late=>by
    obtain⟨N,hN,hb⟩:=N9 k fun i=>late (i+1)
    refine⟨2*N+(if late 0 then 1 else 0),by rw [Nat.pow_succ]; split <;> omega,fun i hi=>?_⟩
    unfold Mg
    cases i with
    | zero =>
      rw [Nat.pow_zero,Nat.div_one]
      cases late 0 <;> simp <;> omega
    | succ i =>
      have:=hb i (by omega)
      unfold Mg at this
      rw [Nat.pow_succ,Nat.mul_comm (2 ^ i) 2,← Nat.div_div_eq_div_mul,show(2*N+(if late 0 then 1 else 0)) / 2=N by split <;> omega]
      exact this
theorem KH (n:Nat) (x:Rg) (b:Bool):Iq n x b=some (eE b x):=by
  unfold Iq eE
  cases b <;> rfl
theorem QA (r:Af) (hb:r.legs.length≤20) (L i:Nat) (hi:i≤20):∀ (n j:Nat)(acc:List Int),r.legs.length<n+j→j≤r.legs.length→acc.length≤j→Ev n r (L:Int) (i:Int) acc (j:Int)=some (acc++(r.legs.drop j).map (eE (Mg L i)))
  | 0,j,acc,h,hj,_=>by omega
  | n+1,j,acc,h,hj,ha=>by
    rw [Ev,Bu]
    by_cases hx:j<r.legs.length
    · simp only [hx,decide_true,cond_true]
      rw [AC _ _ hx,Option.bind_some,Tr L i hi,KH,Option.bind_some,C8 _ _ (by simp; omega),Option.bind_some,Cw j (by omega),QA r hb L i hi n (j+1) _ (by omega) (by omega) (by simp; omega),Az hx]
      simp only [List.map_cons,List.append_assoc]
      rfl
    · have:j=r.legs.length:=by omega
      simp [this]
theorem NA (r:Af) (V:Bg r) (L:Nat):∀ (n i:Nat)(x y:List Int)(z:List (List Int)),r.buses.length+r.spares.length+30<n+i→i≤r.buses.length+r.spares.length→x.length≤i→y.length≤i→z.length≤i →
    DJ n r (L:Int) x y z (i:Int)=some (x++((List.range r.buses.length).drop i).map (fun i=>eE (Mg L i) (r.buses[i]!).tm),y++((List.range r.buses.length).drop i).map (fun i=>eE (Mg L i) r.turn),z++((List.range (r.buses.length+r.spares.length)).drop i).map (fun i=>r.legs.map (eE (Mg L i))))
  | 0,i,x,y,z,h,hi,_,_,_=>by omega
  | n+1,i,x,y,z,h,hi,h1,h2,h3=>by
    have:=V.nb
    have:=V.ns
    have:=V.nl
    rw [DJ,FF (x:=((r.buses.length:Nat):Int)+((r.spares.length:Nat):Int)) (by omega) (by omega)]
    by_cases hx:i<r.buses.length+r.spares.length
    · have q6:i<(List.range (r.buses.length+r.spares.length)).length:=by simpa using hx
      have hn:Uz (IntKind.u64.wrap (i:Int))=some ():=by rw [Uc i (by omega)]; unfold Uz; rw [if_neg (by omega)]
      have e2:=QA r (by omega) L i (by omega) n 0 [] (by omega) (by omega) (by simp)
      rw [Int.natCast_zero,List.nil_append,List.drop_zero] at e2
      rw [decide_eq_true (by omega),cond_true,hn,Option.bind_some,e2,Option.bind_some,C8 _ _ (by simp; omega),Option.bind_some]
      by_cases hib:i<r.buses.length
      · have q7:i<(List.range r.buses.length).length:=by simpa using hib
        rw [decide_eq_true (by omega),cond_true,AC _ _ hib,Option.bind_some,Tr L i (by omega),KH,Option.bind_some,C8 _ _ (by simp; omega),Option.bind_some,KH,Option.bind_some,C8 _ _ (by simp; omega),Option.bind_some]
        rw [Cw i (by omega),NA r V L n (i+1) _ _ _ (by omega) (by omega) (by simp; omega) (by simp; omega) (by simp; omega),Az q6,Az q7]
        simp only [List.getElem_range,List.map_cons,List.append_assoc,Bp _ _ hib]
        rfl
      · have hd:(List.range r.buses.length).drop i=[]:=List.drop_eq_nil_of_le (by simp; omega)
        have hd2:(List.range r.buses.length).drop (i+1)=[]:=List.drop_eq_nil_of_le (by simp; omega)
        rw [decide_eq_false (by omega),cond_false,Cw i (by omega),NA r V L n (i+1) _ _ _ (by omega) (by omega) (by omega) (by omega) (by simp; omega),Az q6,hd,hd2]
        simp only [List.getElem_range,List.map_cons,List.append_assoc]
        rfl
    · have hd:(List.range r.buses.length).drop i=[]:=List.drop_eq_nil_of_le (by simp; omega)
      have hd2:(List.range (r.buses.length+r.spares.length)).drop i=[]:=List.drop_eq_nil_of_le (by simp; omega)
      rw [decide_eq_false (by omega),cond_false,hd,hd2]
      simp
theorem QB (n:Nat) (r:Af) (V:Bg r) (L:Nat) (hn:50≤n):Jv n r (L:Int)=some (DM r (Mg L)):=by
  have:=V.nb
  have:=V.ns
  have e:=NA r V L n 0 [] [] [] (by omega) (by omega) (by simp) (by simp) (by simp)
  rw [Int.natCast_zero] at e
  unfold Jv
  rw [e,Option.bind_some]
  simp only [List.drop_zero,List.nil_append]
  rfl
theorem MJ (r:Af) (a:Am) (V:Bg r) (A:CZ r a) (s:Nat) (hs:s<r.legs.length+1):∀ (j n i:Nat)(acc:Int),i+j=2 ^ (r.buses.length+r.spares.length)→j+100<n→n≤900→acc≤WR r.fr r.to_ (AX r a s) →
    ∃ R,DT n r a (s:Int) (i:Int) acc=some R∧acc≤R∧R≤WR r.fr r.to_ (AX r a s)∧∀ N m,i≤N→N<2 ^ (r.buses.length+r.spares.length)→m∈E8 r.fr r.to_ (AX r a s)→(∀ k<r.buses.length+r.spares.length,Mg N k=Im r a s m k)→Ca m r.to_ (AX r a s)-m≤R
  | j,0,i,acc,_,h,_,_=>by omega
  | j,n+1,i,acc,hij,hn,hn9,hacc=>by
    have hnb:=V.nb
    have hns:=V.ns
    have hp:2 ^ (r.buses.length+r.spares.length)≤64:=by
      calc 2 ^ (r.buses.length+r.spares.length)≤2 ^ 6:=Nat.pow_le_pow_right (by decide) (by omega)
        _=64:=by decide
    have ew:IntKind.i64.wrap (((r.buses.length:Nat):Int)+((r.spares.length:Nat):Int))=((r.buses.length+r.spares.length:Nat):Int):=by rw [FF (by omega) (by omega)]; omega
    have e2:IntKind.i64.wrap (1*2 ^ (min ((IntKind.u64.wrap ((r.buses.length+r.spares.length:Nat):Int)):Int).toNat 64))=((2 ^ (r.buses.length+r.spares.length):Nat):Int):=by
      rw [Uc _ (by omega),Int.toNat_natCast,Nat.min_eq_left (by omega),Int.one_mul,show((2:Int) ^ (r.buses.length+r.spares.length))=((2 ^ (r.buses.length+r.spares.length):Nat):Int) by simp,FF (by omega) (by omega)]
    have hng:Uz (IntKind.u64.wrap ((r.buses.length+r.spares.length:Nat):Int))=some ():=by rw [Uc _ (by omega)]; unfold Uz; rw [if_neg (by omega)]
    rw [DT,ew,hng,Option.bind_some,e2]
    cases j with
    | zero =>
      rw [decide_eq_false (by omega),cond_false]
      exact⟨acc,rfl,Int.le_refl _,hacc,fun N m h1 h2=>by omega⟩
    | succ j =>
      rw [decide_eq_true (by omega),cond_true,QB n r V i (by omega),Option.bind_some]
      have hf:=PP V (Mg i)
      obtain⟨l,g1,g2,g3⟩:=R8 n r a (DM r (Mg i)) V (hf.sized V A) (hf.ok V A) s hs (by omega) (by omega)
      have hle:=SR hf V A hs g2 g3
      rw [g1,Option.bind_some,Cw i (by omega)]
      obtain⟨R,r1,r2,r3,r4⟩:=MJ r a V A s hs j n (i+1) (if IX l>acc then IX l else acc) (by omega) (by omega) (by omega) (by split <;> omega)
      refine⟨R,r1,by split at r2 <;> omega,r3,fun N m h1 h2 hm hb=>?_⟩
      rcases Nat.lt_or_ge i N with h | h
      · exact r4 N m h h2 hm hb
      · have:N=i:=by omega
        subst this
        have:=SS V A hs hm hb g2 g3
        split at r2 <;> omega
theorem PQ (n:Nat) (r:Af) (a:Am) (V:Bg r) (A:CZ r a) (s:Nat) (hs:s<r.legs.length+1) (hn:170≤n) (hn2:n≤900):HR n r a (s:Int)=some (WR r.fr r.to_ (AX r a s)):=by
  have hnb:=V.nb
  have hns:=V.ns
  have hp:2 ^ (r.buses.length+r.spares.length)≤64:=by
    calc 2 ^ (r.buses.length+r.spares.length)≤2 ^ 6:=Nat.pow_le_pow_right (by decide) (by omega)
      _=64:=by decide
  obtain⟨R,r1,r2,r3,r4⟩:=MJ r a V A s hs (2 ^ (r.buses.length+r.spares.length)) n 0 0 (by omega) (by omega) hn2 (Kb _ _ _)
  rw [Int.natCast_zero] at r1
  unfold HR
  rw [r1,Option.bind_some,Option.some.injEq]
  apply Int.le_antisymm r3
  refine Q7.2 ⟨r2,fun m hm=>?_⟩
  obtain⟨N,hN,hb⟩:=N9 (r.buses.length+r.spares.length) (Im r a s m)
  exact r4 N m (Nat.zero_le _) hN hm hb
end Go.Proofs.Ytokchpjijlebiaa
namespace Go.Proofs.Ytokchpjijlebiaa
open Go Go.RowKit
def Dx (r:Af):Nat→Am→List Am
  | 0,a=>[a]
  | j+1,a=>if a.holds.length<r.buses.length then([0,1,2]:List Int).flatMap fun h=>(ER r (r.buses[a.holds.length]!)).flatMap fun t=>Dx r j ⟨a.holds++[h],a.turns++[t],[]⟩
    else([false,true]:List Bool).flatMap fun s=>Dx r j ⟨a.holds,a.turns,a.spares++[s]⟩
theorem MK (r:Af) (b:Cy) (h:r.legs.length≤7):(ER r b).length≤5:=by
  unfold ER
  refine Nat.le_trans (List.length_filter_le _ _) ?_
  simp; omega
theorem DI {α β:Type} (f:α→List β) (L:Nat):∀ l:List α,(∀ x∈l,(f x).length≤L)→(l.flatMap f).length≤l.length*L
  | [],_=>by simp
  | x::l,h=>by
    rw [List.flatMap_cons,List.length_append,List.length_cons,Nat.succ_mul]
    have:=h x (by simp)
    have:=DI f L l fun y hy=>h y (by simp [hy])
    omega
theorem In (r:Af) (hl:r.legs.length≤7):∀ (j:Nat)(a:Am),(Dx r j a).length≤15 ^ j
  | 0,a=>by simp [Dx]
  | j+1,a=>by
    rw [Dx,Nat.pow_succ,Nat.mul_comm]
    split
    · refine Nat.le_trans (DI _ (5*15 ^ j) _ fun h _=>Nat.le_trans (DI _ (15 ^ j) _ fun t _=>In r hl j _) (Nat.mul_le_mul_right _ (MK r _ hl))) ?_
      simp only [List.length_cons,List.length_nil]; omega
    · refine Nat.le_trans (DI _ (15 ^ j) _ fun t _=>In r hl j _) ?_
      simp only [List.length_cons,List.length_nil]; omega
theorem Mh (r:Af) (a:Am) (V:Bg r) (ha:a.holds.length<r.buses.length) (ht:a.turns.length≤4) (h:Int) (B L:Nat) (E:Int→List Am) (hL:∀ t,(E t).length≤L)
    (hE:∀ m t,B≤m→ref_Every m r ⟨a.holds++[h],a.turns++[t],[]⟩=some (E t)):∀ (j n i:Nat)(acc:List Am),i+j=(r.legs.length+1) / 2→B+j<n→acc.length+j*L≤1000000000 →
    CC n r a h acc ((i:Int)-1)=some (acc++((((List.range ((r.legs.length+1) / 2+1)).drop i).map fun(i:Nat)=>(i:Int)-1).filter (Ft r (r.buses[a.holds.length]!))).flatMap E)
  | j,0,i,acc,hi,hn,hacc=>by omega
  | 0,n+1,i,acc,hi,hn,hacc=>by
    have:=V.nl
    have:=V.odd
    have q6:i<(List.range ((r.legs.length+1) / 2+1)).length:=by simp; omega
    rw [CC,Hy n r (by omega),Option.bind_some,FF (by omega) (by omega),decide_eq_false (by omega),cond_false,Az q6,List.drop_eq_nil_of_le (by simp; omega),List.getElem_range]
    have hok:Ft r (r.buses[a.holds.length]!) ((i:Int)-1)=false:=by
      unfold Ft
      rw [decide_eq_false (by omega),decide_eq_false (by omega)]; rfl
    rw [List.map_cons,List.filter_cons,if_neg (by rw [hok]; simp)]
    simp
  | j+1,n+1,i,acc,hi,hn,hacc=>by
    have:=V.nl
    have:=V.odd
    have:=V.nb
    have q6:i<(List.range ((r.legs.length+1) / 2+1)).length:=by simp; omega
    have hm:(j+1)*L=j*L+L:=Nat.succ_mul _ _
    have hs:0≤(r.buses[a.holds.length]).stop:=(V.buses _ (List.getElem_mem ha)).1
    rw [CC,Hy n r (by omega),Option.bind_some,FF (by omega) (by omega),decide_eq_true (by omega),cond_true,Az q6,List.getElem_range,List.map_cons,List.filter_cons]
    have hc:((bif decide ((i:Int)-1<0) then some true else((Co r.buses ((a.holds.length:Nat):Int)).bind fun x36=>some (decide ((i:Int)-1≥x36.stop)))):Option Bool)=some (Ft r (r.buses[a.holds.length]!) ((i:Int)-1)):=by
      rw [AC _ _ ha,Option.bind_some,Bp _ _ ha]
      unfold Ft
      by_cases h0:(i:Int)-1<0
      · rw [decide_eq_true h0,cond_true,decide_eq_true (by omega)]; rfl
      · rw [decide_eq_false h0,cond_false,decide_eq_false (show ¬ ((i:Int)-1=-1) by omega),Bool.false_or]
        congr 1
        exact decide_eq_decide.2 (by omega)
    rw [hc,Option.bind_some,FF (x:=(i:Int)-1+1) (by omega) (by omega),show(i:Int)-1+1=((i+1:Nat):Int)-1 by omega]
    cases Ft r (r.buses[a.holds.length]!) ((i:Int)-1) with
    | false =>
      simp only [cond_false,Bool.false_eq_true,if_false]
      exact Mh r a V ha ht h B L E hL hE j n (i+1) acc (by omega) (by omega) (by omega)
    | true =>
      simp only [cond_true,if_true]
      have:=hL ((i:Int)-1)
      rw [C8 _ _ (by simp; omega),Option.bind_some,List.nil_append,C8 _ _ (by simp; omega),Option.bind_some,C8 _ _ (by simp; omega),Option.bind_some,List.nil_append,C8 _ _ (by simp; omega),Option.bind_some,hE n _ (by omega),Option.bind_some,C8 _ _ (by omega),Option.bind_some]
      rw [Mh r a V ha ht h B L E hL hE j n (i+1) _ (by omega) (by omega) (by rw [List.length_append]; omega),List.flatMap_cons,List.append_assoc]
theorem Ph (r:Af) (a:Am) (V:Bg r) (ha:a.holds.length<r.buses.length) (ht:a.turns.length≤4) (B L:Nat) (E:Int→Int→List Am) (hL:∀ h t,(E h t).length≤L)
    (hE:∀ m h t,B≤m→ref_Every m r ⟨a.holds++[h],a.turns++[t],[]⟩=some (E h t)):∀ (j n i:Nat)(acc:List Am),i+j=3→B+5+j<n→acc.length+j*(5*L)≤1000000000 →
    Dk n r a acc (i:Int)=some (acc++((([0,1,2]:List Int).drop i).flatMap fun h=>(ER r (r.buses[a.holds.length]!)).flatMap (E h)))
  | j,0,i,acc,hi,hn,hacc=>by omega
  | 0,n+1,i,acc,hi,hn,hacc=>by
    have:i=3:=by omega
    subst this
    rw [Dk,decide_eq_false (by omega),cond_false]
    simp
  | j+1,n+1,i,acc,hi,hn,hacc=>by
    have:=V.nl
    have hm:(j+1)*(5*L)=j*(5*L)+5*L:=Nat.succ_mul _ _
    have q6:i<([0,1,2]:List Int).length:=by simp; omega
    have hg:([0,1,2]:List Int)[i]=(i:Int):=by
      have:i=0∨i=1∨i=2:=by omega
      rcases this with rfl | rfl | rfl <;> rfl
    have h2:=Mh r a V ha ht (i:Int) B L (E i) (hL i) (fun m t hm=>hE m i t hm) ((r.legs.length+1) / 2) n 0 acc (by omega) (by omega) (by
      have:(r.legs.length+1) / 2*L≤5*L:=Nat.mul_le_mul_right _ (by omega)
      omega)
    rw [Int.natCast_zero,List.drop_zero,show(0:Int)-1=-1 from rfl] at h2
    rw [Dk,decide_eq_true (by omega),cond_true,h2,Option.bind_some,Cw i (by omega)]
    have hlen:((ER r (r.buses[a.holds.length]!)).flatMap (E i)).length≤5*L:=Nat.le_trans (DI _ L _ fun t _=>hL i t) (Nat.mul_le_mul_right _ (MK r _ V.nl))
    rw [Ph r a V ha ht B L E hL hE j n (i+1) _ (by omega) (by omega) (by rw [List.length_append]; unfold ER at hlen; omega),Az q6,hg,List.flatMap_cons,List.append_assoc]
    rfl
theorem Pi (r:Af) (a:Am) (V:Bg r) (ha:a.spares.length≤4) (B L:Nat) (E:Bool→List Am) (hL:∀ s,(E s).length≤L)
    (hE:∀ m s,B≤m→ref_Every m r ⟨a.holds,a.turns,a.spares++[s]⟩=some (E s)):∀ (j n i:Nat)(acc:List Am),i+j=2→B+j<n→acc.length+j*L≤1000000000 →
    Dm n r a acc (i:Int)=some (acc++((([false,true]:List Bool).drop i).flatMap E))
  | j,0,i,acc,hi,hn,hacc=>by omega
  | 0,n+1,i,acc,hi,hn,hacc=>by
    have:i=2:=by omega
    subst this
    rw [Dm,decide_eq_false (by omega),cond_false]
    simp
  | j+1,n+1,i,acc,hi,hn,hacc=>by
    have hm:(j+1)*L=j*L+L:=Nat.succ_mul _ _
    have q6:i<([false,true]:List Bool).length:=by simp; omega
    have hg:([false,true]:List Bool)[i]=((i:Int) == 1):=by
      have:i=0∨i=1:=by omega
      rcases this with rfl | rfl <;> rfl
    have:=hL ((i:Int) == 1)
    rw [Dm,decide_eq_true (by omega),cond_true,C8 _ _ (by simp; omega),Option.bind_some,List.nil_append,C8 _ _ (by simp; omega),Option.bind_some,hE n _ (by omega),Option.bind_some,C8 _ _ (by omega),Option.bind_some,Cw i (by omega)]
    rw [Pi r a V ha B L E hL hE j n (i+1) _ (by omega) (by omega) (by rw [List.length_append]; omega),Az q6,hg,List.flatMap_cons,List.append_assoc]
theorem Io (r:Af) (V:Bg r):∀ (j n:Nat)(a:Am),a.holds.length+a.spares.length+j=r.buses.length+r.spares.length→a.turns.length=a.holds.length→a.holds.length≤r.buses.length→a.spares.length≤r.spares.length→(a.holds.length<r.buses.length→a.spares=[])→12*j<n→ref_Every n r a=some (Dx r j a)
  | j,0,a,_,_,_,_,_,hn=>by omega
  | 0,n+1,a,h1,h2,h3,h4,h5,hn=>by
    rw [ref_Every,decide_eq_false (by omega),decide_eq_false (by omega)]
    rfl
  | j+1,n+1,a,h1,h2,h3,h4,h5,hn=>by
    have:=V.nb
    have:=V.ns
    have hp:15 ^ j≤15 ^ 5:=Nat.pow_le_pow_right (by decide) (by omega)
    have hp2:(15:Nat) ^ 5=759375:=by decide
    rw [ref_Every,Dx]
    by_cases c:a.holds.length<r.buses.length
    · have h6:=h5 c
      have hs0:a.spares.length=0:=by rw [h6]; rfl
      rw [decide_eq_true (by omega),cond_true,if_pos c]
      have e:=Ph r a V c (by omega) (12*j+1) (15 ^ j) (fun h t=>Dx r j ⟨a.holds++[h],a.turns++[t],[]⟩) (fun h t=>In r V.nl j _)
        (fun m h t hm=>Io r V j m _ (by simp; omega) (by simp; omega) (by simp; omega) (by simp) (fun _=>rfl) (by omega)) 3 n 0 [] rfl (by omega) (by simp; omega)
      rw [Int.natCast_zero,List.drop_zero,List.nil_append] at e
      rw [e]
      rfl
    · rw [decide_eq_false (by omega),cond_false,if_neg c,decide_eq_true (by omega),cond_true]
      have e:=Pi r a V (by omega) (12*j+1) (15 ^ j) (fun s=>Dx r j ⟨a.holds,a.turns,a.spares++[s]⟩) (fun s=>In r V.nl j _)
        (fun m s hm=>Io r V j m _ (by simp; omega) h2 h3 (by simp; omega) (fun h=>absurd h c) (by omega)) 2 n 0 [] rfl (by omega) (by simp; omega)
      rw [Int.natCast_zero,List.drop_zero,List.nil_append] at e
      rw [e]
      rfl
theorem KI (r:Af) (hl:r.legs.length≤5):∀ (j:Nat)(a:Am),a.holds.length+a.spares.length+j=r.buses.length+r.spares.length→a.holds.length≤r.buses.length→(a.holds.length<r.buses.length→a.spares=[])→(Dx r j a).length≤12 ^ (r.buses.length-a.holds.length)*2 ^ (r.spares.length-a.spares.length)
  | 0,a,_,_,_=>by
    rw [Dx]
    exact Nat.mul_pos (Nat.pow_pos (by decide)) (Nat.pow_pos (by decide))
  | j+1,a,h1,h3,h5=>by
    rw [Dx]
    split
    · rename_i c
      have h6:=h5 c
      have hs0:a.spares.length=0:=by rw [h6]; rfl
      have ht:(ER r (r.buses[a.holds.length]!)).length≤4:=by
        unfold ER
        refine Nat.le_trans (List.length_filter_le _ _) ?_
        simp; omega
      obtain⟨d,hd⟩:∃ d,r.buses.length-a.holds.length=d+1:=⟨r.buses.length-a.holds.length-1,by omega⟩
      have IH:∀ h t,(Dx r j ⟨a.holds++[h],a.turns++[t],[]⟩).length≤12 ^ d*2 ^ r.spares.length:=fun h t=>by
        have:=KI r hl j ⟨a.holds++[h],a.turns++[t],[]⟩ (by simp; omega) (by simp; omega) (fun _=>rfl)
        simp only [List.length_append,List.length_cons,List.length_nil,Nat.zero_add,Nat.sub_zero] at this
        rw [show r.buses.length-(a.holds.length+1)=d by omega] at this
        exact this
      rw [hd,hs0,Nat.sub_zero,Nat.pow_succ]
      refine Nat.le_trans (DI _ (4*(12 ^ d*2 ^ r.spares.length)) _ fun h _=>Nat.le_trans (DI _ _ _ fun t _=>IH h t) (Nat.mul_le_mul_right _ ht)) ?_
      rw [show 12 ^ d*12*2 ^ r.spares.length=12*(12 ^ d*2 ^ r.spares.length) by rw [Nat.mul_comm (12 ^ d) 12,Nat.mul_assoc]]
      simp only [List.length_cons,List.length_nil]; omega
    · rename_i c
      obtain⟨d,hd⟩:∃ d,r.spares.length-a.spares.length=d+1:=⟨r.spares.length-a.spares.length-1,by omega⟩
      have IH:∀ s,(Dx r j ⟨a.holds,a.turns,a.spares++[s]⟩).length≤12 ^ (r.buses.length-a.holds.length)*2 ^ d:=fun s=>by
        have:=KI r hl j ⟨a.holds,a.turns,a.spares++[s]⟩ (by simp; omega) h3 (fun h=>absurd h c)
        simp only [List.length_append,List.length_cons,List.length_nil,Nat.zero_add] at this
        rw [show r.spares.length-(a.spares.length+1)=d by omega] at this
        exact this
      rw [hd,Nat.pow_succ]
      refine Nat.le_trans (DI _ _ _ fun s _=>IH s) ?_
      rw [Nat.mul_comm (2 ^ d) 2,Nat.mul_left_comm]
      exact Nat.le_refl _
theorem Ip (r:Af) (V:Bg r):∀ (j:Nat)(a:Am),a.holds.length+a.spares.length+j=r.buses.length+r.spares.length→a.turns.length=a.holds.length→a.holds.length≤r.buses.length→a.spares.length≤r.spares.length→(a.holds.length<r.buses.length→a.spares=[]) →
    (∀ i,i<a.holds.length→Kt r a i=true)→∀ x∈Dx r j a,Eh r x=true
  | 0,a,h1,h2,h3,h4,h5,h6,x,hx=>by
    rw [Dx,List.mem_singleton] at hx
    subst hx
    unfold Eh
    rw [Bool.and_eq_true,decide_eq_true_eq,List.all_eq_true]
    exact⟨⟨by omega,by omega,by omega⟩,fun i hi=>h6 i (by rw [List.mem_range] at hi; omega)⟩
  | j+1,a,h1,h2,h3,h4,h5,h6,x,hx=>by
    rw [Dx] at hx
    split at hx
    · rename_i c
      have hs0:a.spares.length=0:=by rw [h5 c]; rfl
      obtain⟨h,hh,hx⟩:=List.mem_flatMap.1 hx
      obtain⟨t,ht,hx⟩:=List.mem_flatMap.1 hx
      refine Ip r V j _ (by simp; omega) (by simp; omega) (by simp; omega) (by simp) (fun _=>rfl) (fun i hi=>?_) x hx
      rw [Hl r _ _ (by rw [Bp _ _ c]; exact(V.buses _ (List.getElem_mem c)).1)] at ht
      by_cases c2:i<a.holds.length
      · have:=h6 i c2
        unfold Kt at this ⊢
        simp only []
        rw [Bp _ _ (show i<(a.holds++[h]).length by simp; omega),Bp _ _ (show i<(a.turns++[t]).length by simp; omega),List.getElem_append_left c2,List.getElem_append_left (by omega)]
        rw [Bp _ _ c2,Bp _ _ (show i<a.turns.length by omega)] at this
        exact this
      · have:i=a.holds.length:=by simp at hi; omega
        subst this
        unfold Kt
        simp only []
        rw [Bp _ _ (show a.holds.length<(a.holds++[h]).length by simp),Bp _ _ (show a.holds.length<(a.turns++[t]).length by simp; omega),List.getElem_concat_length rfl,List.getElem_append_right (by omega)]
        simp only [h2,Nat.sub_self,List.getElem_cons_zero]
        rw [Bool.and_eq_true]
        refine⟨decide_eq_true ?_,ht⟩
        simp only [List.mem_cons,List.not_mem_nil,or_false] at hh
        omega
    · rename_i c
      obtain⟨s,_,hx⟩:=List.mem_flatMap.1 hx
      exact Ip r V j ⟨a.holds,a.turns,a.spares++[s]⟩ (by simp; omega) h2 h3 (by simp; omega) (fun h=>absurd h c) h6 x hx
theorem Gr (r:Af) (V:Bg r) (x:Am) (A:Eh r x=true):∀ (j k m:Nat),k+m+j=r.buses.length+r.spares.length→k≤r.buses.length→m≤r.spares.length→(k<r.buses.length→m=0)→x∈Dx r j ⟨x.holds.take k,x.turns.take k,x.spares.take m⟩
  | 0,k,m,h1,h2,h3,_=>by
    have B:=E9 A
    have l1:=B.holds
    have l2:=B.turns
    have l3:=B.spares
    rw [Dx,List.mem_singleton,List.take_of_length_le (by omega),List.take_of_length_le (by omega),List.take_of_length_le (by omega)]
  | j+1,k,m,h1,h2,h3,h4=>by
    have B:=E9 A
    have l1:=B.holds
    have l2:=B.turns
    have l3:=B.spares
    have lk:(x.holds.take k).length=k:=by rw [List.length_take]; omega
    rw [Dx]
    simp only []
    rw [lk]
    by_cases c:k<r.buses.length
    · rw [if_pos c]
      have hm:=h4 c
      subst hm
      have b1:=B.hold k c
      have b2:=B.turn k c
      rw [Bp _ _ (show k<x.holds.length by omega)] at b1
      rw [Bp _ _ (show k<x.turns.length by omega)] at b2
      refine List.mem_flatMap.2 ⟨x.holds[k],?_,List.mem_flatMap.2 ⟨x.turns[k],?_,?_⟩⟩
      · simp only [List.mem_cons,List.not_mem_nil,or_false]; omega
      · rw [Hl r _ _ (by rw [Bp _ _ c]; exact(V.buses _ (List.getElem_mem c)).1)]
        unfold Ft
        rw [Bool.or_eq_true,decide_eq_true_eq,decide_eq_true_eq]
        exact b2
      · have:=Gr r V x A j (k+1) 0 (by omega) (by omega) (by omega) (fun _=>rfl)
        rw [List.take_succ_eq_append_getElem (show k<x.holds.length by omega),List.take_succ_eq_append_getElem (show k<x.turns.length by omega),List.take_zero] at this
        exact this
    · rw [if_neg c]
      refine List.mem_flatMap.2 ⟨x.spares[m]'(by omega),by cases x.spares[m]'(by omega) <;> simp,?_⟩
      have:=Gr r V x A j k (m+1) (by omega) (by omega) (by omega) (fun h=>absurd h c)
      rw [List.take_succ_eq_append_getElem (show m<x.spares.length by omega)] at this
      exact this
theorem R9 (n:Nat) (r:Af) (V:Bg r) (hn:80≤n):∃ l,ref_Every n r ⟨[],[],[]⟩=some l∧(∀ a,a∈l↔Eh r a=true)∧(r.legs.length≤5→r.buses.length≤2→r.spares.length≤1→l.length≤288):=by
  have:=V.nb
  have:=V.ns
  refine⟨Dx r (r.buses.length+r.spares.length) ⟨[],[],[]⟩,Io r V _ n _ (by simp) rfl (by simp) (by simp) (fun _=>rfl) (by omega),fun a=>⟨Ip r V _ _ (by simp) rfl (by simp) (by simp) (fun _=>rfl) (fun i hi=>by simp at hi) a,fun h=>?_⟩,fun q1 q2 q3=>?_⟩
  · have:=Gr r V a h (r.buses.length+r.spares.length) 0 0 (by omega) (by omega) (by omega) (fun _=>rfl)
    simpa using this
  · refine Nat.le_trans (KI r q1 _ _ (by simp) (by simp) (fun _=>rfl)) ?_
    exact Nat.mul_le_mul (Nat.pow_le_pow_right (by decide) (show r.buses.length-0≤2 by omega)) (Nat.pow_le_pow_right (by decide) (show r.spares.length-0≤1 by omega))
end Go.Proofs.Ytokchpjijlebiaa
namespace Go.Proofs.Ytokchpjijlebiaa
open Go Go.RowKit
theorem Pj:∀ {x y z:List Int},Lg x y=true→Lg y z=true→Lg x z=true
  | [],y,z,h,_=>by simp [Lg] at h
  | x::xs,[],z,h,_=>by simp [Lg] at h
  | x::xs,y::ys,[],_,h=>by simp [Lg] at h
  | x::xs,y::ys,z::zs,h1,h2=>by
    rw [Lg] at h1 h2 ⊢
    by_cases e:x=y
    · subst e
      rw [if_pos rfl] at h1
      by_cases e2:x=z
      · rw [if_pos e2] at h2 ⊢
        exact Pj h1 h2
      · rw [if_neg e2] at h2 ⊢
        exact h2
    · rw [if_neg e] at h1
      have h3:=of_decide_eq_true h1
      by_cases e2:y=z
      · subst e2
        rw [if_neg e]; exact h1
      · rw [if_neg e2] at h2
        have h4:=of_decide_eq_true h2
        rw [if_neg (by omega)]
        exact decide_eq_true (by omega)
theorem Jr (a b:Am):Cx a b=true↔FL a<FL b∨(FL a=FL b∧(Gp a<Gp b∨(Gp a=Gp b∧Lg (enc a) (enc b)=true))):=by
  unfold Cx
  by_cases e:FL a=FL b
  · rw [if_pos e]
    by_cases e2:Gp a=Gp b
    · rw [if_pos e2]
      constructor
      · exact fun h=>.inr ⟨e,.inr ⟨e2,h⟩⟩
      · rintro(h | ⟨_,h | ⟨_,h⟩⟩)
        · omega
        · omega
        · exact h
    · rw [if_neg e2,decide_eq_true_eq]
      constructor
      · exact fun h=>.inr ⟨e,.inl h⟩
      · rintro(h | ⟨_,h | ⟨h,_⟩⟩)
        · omega
        · exact h
        · omega
  · rw [if_neg e,decide_eq_true_eq]
    constructor
    · exact fun h=>.inl h
    · rintro(h | ⟨h,_⟩)
      · exact h
      · omega
theorem OD {a b c:Am} (h1:Cx a b=true) (h2:Cx b c=true):Cx a c=true:=by
  rw [Jr] at h1 h2 ⊢
  rcases h1 with h1 | ⟨e1,h1 | ⟨f1,h1⟩⟩ <;> rcases h2 with h2 | ⟨e2,h2 | ⟨f2,h2⟩⟩
  · exact .inl (by omega)
  · exact .inl (by omega)
  · exact .inl (by omega)
  · exact .inl (by omega)
  · exact .inr ⟨by omega,.inl (by omega)⟩
  · exact .inr ⟨by omega,.inl (by omega)⟩
  · exact .inl (by omega)
  · exact .inr ⟨by omega,.inl (by omega)⟩
  · exact .inr ⟨by omega,.inr ⟨by omega,Pj h1 h2⟩⟩
theorem Lm (x:List Int) (hx:x.length≤100):∀ (n i:Nat),x.length<n+i→i≤x.length→Er n x x (i:Int)=some (Ex.go ())
  | 0,i,h,hi=>by omega
  | n+1,i,h,hi=>by
    rw [Er,Bu]
    by_cases c:i<x.length
    · simp only [c,decide_true,cond_true]
      rw [AC _ _ c]
      simp only [Option.bind_some,bne_self_eq_false,cond_false]
      rw [Cw i (by omega)]
      exact Lm x hx n (i+1) (by omega) (by omega)
    · simp only [c,decide_false,cond_false]
theorem Pk (n:Nat) (x:List Int) (hx:x.length<n) (h:x.length≤100):GT n x x=some true:=by
  have e:=Lm x h n 0 (by omega) (by omega)
  rw [Int.natCast_zero] at e
  unfold GT
  rw [bne_self_eq_false,cond_false,e]
  rfl
theorem Ln (a:Am) (hx:a.spares.length≤100):∀ (n i:Nat),a.spares.length<n+i→i≤a.spares.length→Es n a a (i:Int)=some (Ex.go ())
  | 0,i,h,hi=>by omega
  | n+1,i,h,hi=>by
    rw [Es,Bu]
    by_cases c:i<a.spares.length
    · simp only [c,decide_true,cond_true]
      rw [AC _ _ c]
      simp only [Option.bind_some,beq_self_eq_true,Bool.not_true,cond_false]
      rw [Cw i (by omega)]
      exact Ln a hx n (i+1) (by omega) (by omega)
    · simp only [c,decide_false,cond_false]
theorem OE (n:Nat) (a:Am) (hn:30≤n) (h1:a.holds.length≤20) (h2:a.turns.length≤20) (h3:a.spares.length≤20):HP n a a=some true:=by
  have e:=Ln a (by omega) n 0 (by omega) (by omega)
  rw [Int.natCast_zero] at e
  unfold HP
  rw [Pk n _ (by omega) (by omega),Option.bind_some,Pk n a.turns (by omega) (by omega),Option.bind_some,bne_self_eq_false,e]
  rfl
theorem Pm (r:Af) (a:Am) (V:Bg r) (A:CZ r a) (l:List Am) (i:Nat) (hi:i<l.length) (hl:l[i]=a):∀ (j n s:Nat)(acc:Int),s+j=r.legs.length+1→170+j<n→n≤900→0≤acc →
    ∃ R,Bj n r l (i:Int) (s:Int) acc=some R∧acc≤R∧(∀ k,s≤k→k<r.legs.length+1→WR r.fr r.to_ (AX r a k)≤R)∧(R=acc∨R≤maxW r a)
  | j,0,s,acc,_,h,_,_=>by omega
  | 0,n+1,s,acc,hs,h,_,h0=>by
    have:=V.nl
    refine⟨acc,?_,Int.le_refl _,fun k _ _=>by omega,.inl rfl⟩
    rw [Bj,Fs n r (by omega),Option.bind_some,decide_eq_false (by omega),cond_false]
  | j+1,n+1,s,acc,hs,h,h9,h0=>by
    have:=V.nl
    have e:=PQ n r a V A s (by omega) (by omega) (by omega)
    obtain⟨R,r1,r2,r3,r4⟩:=Pm r a V A l i hi hl j n (s+1) (if WR r.fr r.to_ (AX r a s)>acc then WR r.fr r.to_ (AX r a s) else acc) (by omega) (by omega) (by omega) (by split <;> omega)
    have hm:WR r.fr r.to_ (AX r a s)≤maxW r a:=Lh.1 (Int.le_refl _) _ (List.mem_map.2 ⟨s,by rw [List.mem_range]; omega,rfl⟩)
    refine⟨R,?_,by split at r2 <;> omega,fun k h1 h2=>?_,?_⟩
    · rw [Bj,Fs n r (by omega),Option.bind_some,decide_eq_true (by omega),cond_true,AC _ _ hi,Option.bind_some,hl,e,Option.bind_some,Cw s (by omega),r1]
    · by_cases hk:k=s
      · subst hk; split at r2 <;> omega
      · exact r3 k (by omega) h2
    · rcases r4 with r4 | r4
      · split at r4
        · exact .inr (by omega)
        · exact .inl r4
      · exact .inr r4
theorem RA (r:Af) (a:Am) (V:Bg r) (A:CZ r a) (l:List Am) (i:Nat) (hi:i<l.length) (hl:l[i]=a) (n:Nat) (hn:180≤n) (hn2:n≤900):Bj n r l (i:Int) 0 0=some (maxW r a):=by
  have:=V.nl
  obtain⟨R,r1,r2,r3,r4⟩:=Pm r a V A l i hi hl (r.legs.length+1) n 0 0 (by omega) (by omega) hn2 (Int.le_refl _)
  rw [Int.natCast_zero] at r1
  rw [r1,Option.some.injEq]
  apply Int.le_antisymm
  · rcases r4 with r4 | r4
    · rw [r4]; exact(Ih V a).1
    · exact r4
  · refine Lh.2 fun w hw=>?_
    obtain⟨k,hk,rfl⟩:=List.mem_map.1 hw
    exact r3 k (Nat.zero_le _) (by simpa using hk)
def Ts (r:Af) (l:List Am) (i:Nat) (v w:Int):Prop :=
  ((i=0∧v=-1)∨((∀ k (h:k<l.length),k<i→v≤maxW r l[k])∧∃ k,∃ h:k<l.length,k<i∧v=maxW r l[k])) ∧
  ((w=-1∧∀ k (h:k<l.length),k<i→r.gap<maxW r l[k])∨∃ b,∃ h:b<l.length,b<i∧w=(b:Int)∧maxW r l[b]≤r.gap∧∀ k (h:k<l.length),k<i→maxW r l[k]≤r.gap→Cx l[k] l[b]=false)
theorem Ts.step {r:Af} {l:List Am} {i:Nat} {v w v' w':Int} (V:Bg r) (hi:i<l.length) (h:Ts r l i v w)
    (hv:v' = if v<0∨maxW r l[i]<v then maxW r l[i] else v)
    (hw:(r.gap<maxW r l[i]∧w' = w)∨(maxW r l[i]≤r.gap∧((w<0∧w' = (i:Int))∨∃ b,∃ hb:b<l.length,w=(b:Int)∧((Cx l[i] l[b]=true∧w' = (i:Int))∨(Cx l[i] l[b]=false∧w' = w))))):Ts r l (i+1) v' w':=by
  obtain⟨h1,h2⟩:=h
  constructor
  · right
    have hm:=(Ih V l[i]).1
    rcases h1 with⟨h0,h1⟩ | ⟨h1,k0,hk0,hk1,hk2⟩
    · rw [if_pos (.inl (by omega))] at hv
      refine⟨fun k hk hk'=>?_,i,hi,by omega,hv⟩
      have:k=i:=by omega
      subst this
      omega
    · have hm2:=(Ih V l[k0]).1
      by_cases c:v<0∨maxW r l[i]<v
      · rw [if_pos c] at hv
        refine⟨fun k hk hk'=>?_,i,hi,by omega,hv⟩
        by_cases e:k=i
        · subst e; omega
        · have:=h1 k hk (by omega); omega
      · rw [if_neg c] at hv
        refine⟨fun k hk hk'=>?_,k0,hk0,by omega,by omega⟩
        by_cases e:k=i
        · subst e; omega
        · have:=h1 k hk (by omega); omega
  · rcases hw with⟨hg,hw⟩ | ⟨hg,hw⟩
    · rcases h2 with⟨h0,h2⟩ | ⟨b,hb,hbi,hbw,hbk,hbb⟩
      · refine .inl ⟨by omega,fun k hk hk'=>?_⟩
        by_cases e:k=i
        · subst e; exact hg
        · exact h2 k hk (by omega)
      · refine .inr ⟨b,hb,by omega,by omega,hbk,fun k hk hk' hk2=>?_⟩
        by_cases e:k=i
        · subst e; omega
        · exact hbb k hk (by omega) hk2
    · rcases hw with⟨hw0,hw⟩ | ⟨b',hb',hbw',hw⟩
      · refine .inr ⟨i,hi,by omega,hw,hg,fun k hk hk' hk2=>?_⟩
        by_cases e:k=i
        · subst e
          cases hc:Cx l[k] l[k] with
          | false=>rfl
          | true =>
            rw [Jr,Ic] at hc
            rcases hc with hc | ⟨_,hc | ⟨_,hc⟩⟩
            · omega
            · omega
            · cases hc
        · rcases h2 with⟨h0,h2⟩ | ⟨b,hb,hbi,hbw,_⟩
          · have:=h2 k hk (by omega); omega
          · omega
      · rcases h2 with⟨h0,h2⟩ | ⟨b,hb,hbi,hbw,hbk,hbb⟩
        · omega
        · have:b=b':=by omega
          subst this
          rcases hw with⟨hc,hw⟩ | ⟨hc,hw⟩
          · refine .inr ⟨i,hi,by omega,hw,hg,fun k hk hk' hk2=>?_⟩
            cases hk3:Cx l[k] l[i] with
            | false=>rfl
            | true =>
              by_cases e:k=i
              · subst e
                rw [Jr,Ic] at hk3
                rcases hk3 with hk3 | ⟨_,hk3 | ⟨_,hk3⟩⟩
                · omega
                · omega
                · cases hk3
              · have:=hbb k hk (by omega) hk2
                rw [OD hk3 hc] at this
                exact this
          · refine .inr ⟨b,hb,by omega,by omega,hbk,fun k hk hk' hk2=>?_⟩
            by_cases e:k=i
            · subst e; exact hc
            · exact hbb k hk (by omega) hk2
theorem HN (r:Af) (V:Bg r) (l:List Am) (hl:∀ a∈l,Eh r a=true) (hlen:l.length≤288):∀ (j n i:Nat)(v w:Int),i+j=l.length→190+j<n→n≤900→Ts r l i v w →
    ∃ v' w',AJ n r l (i:Int) v w=some (v',w')∧Ts r l l.length v' w'
  | j,0,i,v,w,_,h,_,_=>by omega
  | 0,n+1,i,v,w,hi,h,h9,hB=>by
    have:i=l.length:=by omega
    subst this
    refine⟨v,w,?_,hB⟩
    rw [AJ,Bu]
    simp
  | j+1,n+1,i,v,w,hi,h,h9,hB=>by
    have hx:i<l.length:=by omega
    have hA:=hl _ (List.getElem_mem hx)
    have A:=E9 hA
    have hv:((((bif decide (v<0) then some true else some (decide (maxW r l[i]<v))):Option Bool).bind fun o_285=>((bif o_285 then some (maxW r l[i]) else some v):Option Int)))=some (if v<0∨maxW r l[i]<v then maxW r l[i] else v):=by
      by_cases c:v<0
      · rw [decide_eq_true c,if_pos (.inl c)]; rfl
      · rw [decide_eq_false c,cond_false,Option.bind_some]
        by_cases c2:maxW r l[i]<v
        · rw [decide_eq_true c2,if_pos (.inr c2)]; rfl
        · rw [decide_eq_false c2,if_neg (by omega)]; rfl
    rw [AJ,Bu]
    simp only [hx,decide_true,cond_true]
    rw [RA r _ V A l i hx rfl n (by omega) (by omega),Option.bind_some,← Option.bind_assoc,hv,Option.bind_some,Cw i (by omega)]
    by_cases c:maxW r l[i]≤r.gap
    · rw [decide_eq_true c,cond_true]
      by_cases c2:w<0
      · rw [decide_eq_true c2,cond_true]
        exact HN r V l hl hlen j n (i+1) _ _ (by omega) (by omega) (by omega) (hB.step V hx rfl (.inr ⟨c,.inl ⟨c2,rfl⟩⟩))
      · rw [decide_eq_false c2,cond_false]
        rcases hB.2 with⟨h0,_⟩ | ⟨b,hb,hbi,hbw,hbk,hbb⟩
        · omega
        · subst hbw
          have B:=E9 (hl _ (List.getElem_mem hb))
          rw [AC _ _ hx,Option.bind_some,AC _ _ hb,Option.bind_some,OC n _ _ (Tp V A) (Tp V B) (by rw [A.holds,B.holds]) (by rw [A.spares,B.spares]) (by omega),Option.bind_some]
          cases hc:Cx l[i] l[b] with
          | true =>
            rw [cond_true]
            exact HN r V l hl hlen j n (i+1) _ _ (by omega) (by omega) (by omega) (hB.step V hx rfl (.inr ⟨c,.inr ⟨b,hb,rfl,.inl ⟨hc,rfl⟩⟩⟩))
          | false =>
            rw [cond_false]
            exact HN r V l hl hlen j n (i+1) _ _ (by omega) (by omega) (by omega) (hB.step V hx rfl (.inr ⟨c,.inr ⟨b,hb,rfl,.inr ⟨hc,rfl⟩⟩⟩))
    · rw [decide_eq_false c,cond_false]
      exact HN r V l hl hlen j n (i+1) _ _ (by omega) (by omega) (by omega) (hB.step V hx rfl (.inl ⟨by omega,rfl⟩))
theorem Ud {r:Af} {a b:Am} (V:Bg r) (ha:Eh r a=true) (hb:Eh r b=true) (h:enc a=enc b):a=b:=by
  rw [← (GF V ha).2,← (GF V hb).2,h]
theorem Mi (n:Nat) (hn:480≤n) (hn2:n≤900) (hw:Fd n=some true) (r:Af):EA n r=some true:=by
  unfold EA Ng Lo
  by_cases t1 : ¬ (((r.legs.length:Nat):Int)≤10)
  · simp only [t1,decide_false,cond_false,Option.bind_some,Bool.not_false,cond_true,hw]
  replace t1:=Decidable.not_not.1 t1
  by_cases t2 : ¬ (((r.buses.length:Nat):Int)≤6)
  · simp only [t1,t2,decide_true,cond_true,decide_false,cond_false,Option.bind_some,Bool.not_false,hw]
  replace t2:=Decidable.not_not.1 t2
  by_cases t3 : ¬ (((r.spares.length:Nat):Int)≤4)
  · simp only [t1,t2,t3,decide_true,cond_true,decide_false,cond_false,Option.bind_some,Bool.not_false,hw]
  replace t3:=Decidable.not_not.1 t3
  simp only [t1,t2,t3,decide_true,cond_true,Option.bind_some]
  rw [PJ n r (by omega) (by omega) (by omega) (by omega),PH n r (by omega) (by omega) (by omega) (by omega)]
  simp only [Option.bind_some]
  by_cases hF : ¬ (EQ r=0)
  · have hF2:(EQ r != 0)=true:=by simpa using hF
    have e1:CD n r=some (⟨[],[],[]⟩,EQ r):=by
      unfold CD
      rw [Lc n r (by omega) (by omega) (by omega) (by omega),Option.bind_some,hF2,cond_true]
    have e2:CJ n r=some (0,EQ r):=by
      unfold CJ
      rw [Lc n r (by omega) (by omega) (by omega) (by omega),Option.bind_some,hF2,cond_true]
    rw [hF2,e1,e2,hw]
    simp only [cond_true,Option.bind_some,Bool.not_true,cond_false,beq_self_eq_true]
    rfl
  replace hF:=Decidable.not_not.1 hF
  have V:=Nu hF
  rw [hF]
  simp only [bne_self_eq_false,cond_false]
  by_cases u1 : ¬ (((r.legs.length:Nat):Int)≤5)
  · simp only [u1,decide_false,cond_false,Option.bind_some,Bool.not_false,cond_true,hw]
  replace u1:=Decidable.not_not.1 u1
  by_cases u2 : ¬ (((r.buses.length:Nat):Int)≤2)
  · simp only [u1,u2,decide_true,cond_true,decide_false,cond_false,Option.bind_some,Bool.not_false,hw]
  replace u2:=Decidable.not_not.1 u2
  by_cases u3 : ¬ (((r.spares.length:Nat):Int)≤1)
  · simp only [u1,u2,u3,decide_true,cond_true,decide_false,cond_false,Option.bind_some,Bool.not_false,hw]
  replace u3:=Decidable.not_not.1 u3
  simp only [u1,u2,u3,decide_true,cond_true,Option.bind_some,Bool.not_true,cond_false]
  obtain⟨l,hl,hmem,hlen⟩:=R9 n r V (by omega)
  have hlen:=hlen (by omega) (by omega) (by omega)
  obtain⟨v,w,hb,hI⟩:=HN r V l (fun a ha=>(hmem a).1 ha) hlen l.length n 0 (-1) (-1) (by omega) (by omega) hn2 ⟨.inl ⟨rfl,rfl⟩,.inl ⟨rfl,fun k _ h=>by omega⟩⟩
  rw [Int.natCast_zero] at hb
  obtain⟨L,hL,hL1,a0,hL2,hL3⟩:=R6 n r hF (by omega) hn2
  have hidx:∀ a,Eh r a=true→∃ k,∃ h:k<l.length,l[k]=a:=fun a ha=>List.mem_iff_getElem.1 ((hmem a).2 ha)
  have hvL:v=L:=by
    obtain⟨k,hk,hka⟩:=hidx a0 hL2
    rcases hI.1 with⟨h0,_⟩ | ⟨h1,k1,hk1,_,hk2⟩
    · omega
    · have a1:=h1 k hk hk
      rw [hka,hL3] at a1
      have a2:=hL1 l[k1] ((hmem _).1 (List.getElem_mem hk1))
      omega
  rw [hL,hl]
  simp only [Option.bind_some]
  rw [hb]
  simp only [Option.bind_some,hvL,bne_self_eq_false,cond_false]
  rcases SQ n r hF (by omega) hn2 with⟨best,hB,hBa,hBk,hBb⟩ | ⟨hB,hBn⟩
  · rw [hB]
    simp only [Option.bind_some]
    obtain⟨k,hk,hka⟩:=hidx best hBa
    rcases hI.2 with⟨h0,h1⟩ | ⟨b,hb1,_,hbw,hbk,hbb⟩
    · have:=h1 k hk hk
      rw [hka] at this
      omega
    · have B1:=(hmem _).1 (List.getElem_mem hb1)
      have c1:=hBb _ B1 hbk
      have c2:=hbb k hk hk (by rw [hka]; exact hBk)
      rw [hka] at c2
      have A1:=E9 B1
      have A2:=E9 hBa
      have l1:=A2.holds
      have l2:=A2.turns
      have l3:=A2.spares
      have e:l[b]=best:=Ud V B1 hBa (R4 (by unfold enc; simp [A1.holds,A1.turns,A1.spares,A2.holds,A2.turns,A2.spares]) c1 c2)
      rw [hbw,decide_eq_false (by omega),cond_false,beq_self_eq_true,cond_true,AC _ _ hb1,Option.bind_some,e,Qw n best (by omega) (by omega) (by omega),Option.bind_some,OE n best (by omega) (by omega) (by omega) (by omega),Option.bind_some,cond_true,hw]
      rfl
  · rw [hB]
    simp only [Option.bind_some]
    rcases hI.2 with⟨h0,h1⟩ | ⟨b,hb1,_,hbw,hbk,hbb⟩
    · rw [h0,hw]
      rfl
    · have:=hBn _ ((hmem _).1 (List.getElem_mem hb1))
      omega
end Go.Proofs.Ytokchpjijlebiaa
