/- The plain law. -/
import Derived.Test.YtokchpjijlebiaaWGP0
import Derived.Test.YtokchpjijlebiaaWGWW
set_option linter.all false
namespace Go.Proofs.Ytokchpjijlebiaa
open Go Go.RowKit
theorem GF {x:Int} (h0 : -9223372036854775808≤x) (h1:x≤9223372036854775807):IntKind.i64.wrap x=x:=by
  simp [IntKind.wrap,IntKind.bits,IntKind.signed]; omega
theorem De (i:Nat) (h:i<1000000000000):IntKind.i64.wrap ((i:Int)+1)=((i+1:Nat):Int):=by
  rw [GF (by omega) (by omega)]; omega
theorem Qc {α:Type} (xs:List α) (i:Nat):Cd xs (i:Int)=xs[i]?:=rfl
theorem AI {α:Type} (xs:List α) (i:Nat) (h:i<xs.length):Cd xs (i:Int)=some xs[i]:=by rw [Qc,List.getElem?_eq_getElem h]
theorem DH {α:Type} (xs ys:List α) (h:xs.length+ys.length≤1000000000):Jz xs ys=some (xs++ys):=by
  unfold Jz; rw [if_pos (by simpa using h)]
theorem Ms {α:Type} (xs:List α) (i:Nat) (y:α) (h:i<xs.length):upd xs (i:Int) y=some (xs.set i y):=by
  show(if i<xs.length then some (xs.set i y) else none)=_
  rw [if_pos h]
theorem Ts {α:Type} (n:Nat) (x:α) (h:n≤1000000000):mk (n:Int) x=some (List.replicate n x):=by
  unfold mk; rw [if_pos (by omega)]; rfl
theorem AT {α:Type} {xs:List α} {i:Nat} (h:i<xs.length):xs.drop i=xs[i]::xs.drop (i+1):=List.drop_eq_getElem_cons h
theorem BN {α:Type} (xs:List α) (i:Nat):decide ((i:Int)<((xs.length:Nat):Int))=decide (i<xs.length):=by
  by_cases h:i<xs.length <;> simp [h]
theorem FO (n:Nat) (l:List Int) (h:l.length≤1000):Fc n l=some l:=by
  unfold Fc
  simp [DH [] l (by simp; omega)]
theorem Ik (r:Af) (hb:r.legs.length≤1000):∀ (n i:Nat)(acc:List Rg),r.legs.length<n+i→i≤r.legs.length→acc.length=i→D7 n r acc (i:Int)=some (acc++r.legs.drop i)
  | 0,i,acc,h,hi,_=>by omega
  | n+1,i,acc,h,hi,ha=>by
    rw [D7,BN]
    by_cases hx:i<r.legs.length
    · simp only [hx,decide_true,cond_true,AI _ _ hx,Option.bind_some,I7]
      rw [DH _ _ (by simp; omega)]
      simp only [Option.bind_some]
      rw [De i (by omega),Ik r hb n (i+1) _ (by omega) (by omega) (by simp; omega),AT hx,List.append_assoc]
      rfl
    · have:i=r.legs.length:=by omega
      simp [this]
theorem Il (r:Af) (hb:r.buses.length≤1000):∀ (n i:Nat)(acc:List CG),r.buses.length<n+i→i≤r.buses.length→acc.length=i→D8 n r acc (i:Int)=some (acc++r.buses.drop i)
  | 0,i,acc,h,hi,_=>by omega
  | n+1,i,acc,h,hi,ha=>by
    rw [D8,BN]
    by_cases hx:i<r.buses.length
    · simp only [hx,decide_true,cond_true,AI _ _ hx,Option.bind_some,I7]
      rw [DH _ _ (by simp; omega)]
      simp only [Option.bind_some]
      rw [De i (by omega),Il r hb n (i+1) _ (by omega) (by omega) (by simp; omega),AT hx,List.append_assoc]
      rfl
    · have:i=r.buses.length:=by omega
      simp [this]
theorem Im (r:Af) (hb:r.spares.length≤1000):∀ (n i:Nat)(acc:List AG),r.spares.length<n+i→i≤r.spares.length→acc.length=i→D9 n r acc (i:Int)=some (acc++r.spares.drop i)
  | 0,i,acc,h,hi,_=>by omega
  | n+1,i,acc,h,hi,ha=>by
    rw [D9,BN]
    by_cases hx:i<r.spares.length
    · simp only [hx,decide_true,cond_true,AI _ _ hx,Option.bind_some]
      rw [DH _ _ (by simp; omega)]
      simp only [Option.bind_some]
      rw [De i (by omega),Im r hb n (i+1) _ (by omega) (by omega) (by simp; omega),AT hx,List.append_assoc]
      rfl
    · have:i=r.spares.length:=by omega
      simp [this]
theorem Om (n:Nat) (r:Af) (hn:50≤n) (h1:r.legs.length≤20) (h2:r.buses.length≤20) (h3:r.spares.length≤20):Gy n r=some r:=by
  unfold Gy
  have e1:=Ik r (by omega) n 0 [] (by omega) (by omega) rfl
  have e2:=Il r (by omega) n 0 [] (by omega) (by omega) rfl
  have e3:=Im r (by omega) n 0 [] (by omega) (by omega) rfl
  simp only [Int.natCast_zero,List.nil_append,List.drop_zero] at e1 e2 e3
  simp [I7,e1,e2,e3]
theorem OY (n:Nat) (a:Ao) (h1:a.holds.length≤20) (h2:a.turns.length≤20) (h3:a.spares.length≤20):Hw n a=some a:=by
  unfold Hw
  simp [FO n _ (show a.holds.length≤1000 by omega),FO n _ (show a.turns.length≤1000 by omega),DH [] a.spares (by simp; omega)]
end Go.Proofs.Ytokchpjijlebiaa
namespace Go.Proofs.Ytokchpjijlebiaa
open Go Go.RowKit
def Ce (st turned turn:Int) (legs:List Int):Nat→Int→Int→List (Int×Int)
  | 0,_,_=>[]
  | n+1,tm,s=>if 0≤s∧s<st then(s,tm)::(if s=turned then Ce st turned turn legs n (tm+turn) (st-1-s) else match legs[s.toNat]? with
    | some d=>Ce st turned turn legs n (tm+d) (s+1)
    | none=>[]) else []
def Q7 (turn:Int) (legs:List Int):Prop:=0≤turn∧turn≤300∧legs.length≤20∧∀ d∈legs,0≤d∧d≤300
theorem E0 (n:Nat) (r:Af) (h:r.legs.length≤20):AF n r=some ((r.legs.length:Int)+1):=by
  simp only [AF]; rw [GF (by omega) (by omega)]
theorem Gf (n:Nat) (r:Af) (s:Int) (h:r.legs.length≤20):AL n r s=some (decide (0≤s∧s<(r.legs.length:Int)+1)):=by
  simp only [AL,E0 n r h,Bu,Option.bind_some]
  rw [GF (by omega) (by omega)]
  by_cases h1:0≤s
  · simp [h1]; omega
  · simp [h1]
theorem Kp {σ:Type} (yield_:σ→Int→Int→Option (σ×Bool)) (g:σ→Int→Int→Option σ) (hy:∀ s a b,yield_ s a b=(g s a b).map fun s'=>(s',true)) (q0:Bd) (q1:Af) (q2:A9) (hl:q1.legs.length≤20) (hq:Q7 q2.turn q2.legs) (hql:q2.legs.length=q1.legs.length)
    (ht:2*q0.turned+1<(q1.legs.length:Int)+1):∀ (n:Nat)(tm s:Int)(x:σ),0≤tm→tm+300*n≤1000000000→0≤s→s≤(q1.legs.length:Int)+1→(q1.legs.length:Int)+1-s<n →
    (AM n yield_ q0 q1 q2 tm s x).bind (fun o=>Ex.bind o (fun r=>some r) fun s=>some s)=(Ce ((q1.legs.length:Int)+1) q0.turned q2.turn q2.legs n tm s).foldlM (fun x p=>g x p.1 p.2) x
  | 0,tm,s,x,_,_,_,h1,h2=>by omega
  | n+1,tm,s,x,h0,hb,hs,h1,h2=>by
    have IH:=Kp yield_ g hy q0 q1 q2 hl hq hql ht n
    obtain⟨t0,t1,hq1,hq2⟩:=hq
    rw [AM,Ce,Gf n q1 s hl]
    by_cases hc:0≤s∧s<(q1.legs.length:Int)+1
    · simp only [hc,and_self,decide_true,Option.bind_some,cond_true,if_true,hy,List.foldlM_cons]
      cases hg:g x s tm with
      | none=>simp
      | some x' =>
        simp only [Option.map_some,Option.bind_some,cond_true,Option.bind_eq_bind,E0 n q1 hl]
        by_cases hst:s=q0.turned
        · simp only [hst,beq_self_eq_true,cond_true,if_true]
          subst hst
          rw [GF (x:=tm+q2.turn) (by omega) (by omega),GF (x:=(q1.legs.length:Int)+1-1) (by omega) (by omega),GF (x:=(q1.legs.length:Int)+1-1-q0.turned) (by omega) (by omega)]
          exact IH _ _ _ (by omega) (by omega) (by omega) (by omega) (by omega)
        · simp only [beq_eq_false_iff_ne.2 hst,cond_false,hst,if_false]
          by_cases hsl:s<(q2.legs.length:Int)
          · simp only [hsl,decide_true,cond_true]
            obtain⟨k,rfl⟩:∃ k:Nat,s=k:=⟨s.toNat,by omega⟩
            have hk:k<q2.legs.length:=by omega
            have hd:=hq2 _ (List.getElem_mem hk)
            rw [AI _ _ hk]
            simp only [Option.bind_some,Int.toNat_natCast,List.getElem?_eq_getElem hk]
            rw [GF (x:=tm+q2.legs[k]) (by omega) (by omega),GF (x:=(k:Int)+1) (by omega) (by omega)]
            exact IH _ _ _ (by omega) (by omega) (by omega) (by omega) (by omega)
          · simp only [hsl,decide_false,cond_false,Option.bind_some,Ex.bind]
            rw [List.getElem?_eq_none (by omega)]
            simp
    · simp only [hc,decide_false,Option.bind_some,cond_false,Ex.bind,if_false]
      simp
theorem N7 {σ:Type} (n:Nat) (yield_:σ→Int→Int→Option (σ×Bool)) (g:σ→Int→Int→Option σ) (hy:∀ s a b,yield_ s a b=(g s a b).map fun s'=>(s',true)) (q0:Bd) (q1:Af) (q2:A9) (x:σ) (hl:q1.legs.length≤20) (hq:Q7 q2.turn q2.legs) (hql:q2.legs.length=q1.legs.length)
    (ht:2*q0.turned+1<(q1.legs.length:Int)+1) (h0:0≤q0.tm) (h1:q0.tm≤100000) (hn:30≤n) (hn2:n≤1000) (hs:0≤q0.stop) (hs2:q0.stop≤(q1.legs.length:Int)+1) :
    Bt n yield_ x q0 q1 q2=(Ce ((q1.legs.length:Int)+1) q0.turned q2.turn q2.legs n q0.tm q0.stop).foldlM (fun x p=>g x p.1 p.2) x :=
  Kp yield_ g hy q0 q1 q2 hl hq hql ht n q0.tm q0.stop x h0 (by omega) hs hs2 (by omega)
theorem EZ {st turned turn:Int} {legs:List Int} (ht:2*turned+1<st):∀ (n:Nat)(tm s:Int)(p:Int×Int),p∈Ce st turned turn legs n tm s→s≤p.1∧0≤p.1∧p.1<st
  | 0,_,_,_,h=>by simp [Ce] at h
  | n+1,tm,s,p,h=>by
    rw [Ce] at h
    split at h
    · rename_i hc
      rcases List.mem_cons.1 h with rfl | h
      · exact⟨Int.le_refl _,hc.1,hc.2⟩
      · split at h
        · have:=EZ ht n _ _ p h
          omega
        · split at h
          · have:=EZ ht n _ _ p h
            omega
          · simp at h
    · simp at h
theorem FP {st turned turn:Int} {legs:List Int} (ht:2*turned+1<st):∀ (n:Nat)(tm s:Int),((Ce st turned turn legs n tm s).map Prod.fst).Nodup
  | 0,_,_=>by simp [Ce]
  | n+1,tm,s=>by
    rw [Ce]
    split
    · rename_i hc
      rw [List.map_cons,List.nodup_cons]
      split
      · rename_i hs
        refine⟨fun h=>?_,FP ht n _ _⟩
        obtain⟨p,hp,hp2⟩:=List.mem_map.1 h
        have:=EZ ht n _ _ p hp
        simp only at hp2
        omega
      · split
        · refine⟨fun h=>?_,FP ht n _ _⟩
          obtain⟨p,hp,hp2⟩:=List.mem_map.1 h
          have:=EZ ht n _ _ p hp
          simp only at hp2
          omega
        · simp
    · simp
def Mt (st turned turn:Int) (legs:List Int) (n:Nat) (tm s k:Int):Option Int:=BJ (Ce st turned turn legs n tm s) k
theorem Hr {st turned:Int} {turn turn':Int} {legs legs':List Int} (ht:2*turned+1<st) (hl:legs.length=legs'.length) (hle:∀ (k:Nat)(d d':Int),legs[k]? = some d→legs'[k]? = some d'→d≤d') (h1:turn≤turn'):∀ (n:Nat)(tm tm' s k:Int),tm≤tm' →
    (Mt st turned turn legs n tm s k=none∧Mt st turned turn' legs' n tm' s k=none)∨∃ a b,Mt st turned turn legs n tm s k=some a∧Mt st turned turn' legs' n tm' s k=some b∧a≤b
  | 0,_,_,_,_,_=>.inl ⟨rfl,rfl⟩
  | n+1,tm,tm',s,k,h=>by
    unfold Mt
    rw [Ce,Ce]
    by_cases hc:0≤s∧s<st
    · simp only [hc,and_self,if_true,BJ]
      by_cases hk:s=k
      · simp only [hk,if_true]; exact .inr ⟨_,_,rfl,rfl,h⟩
      · simp only [hk,if_false]
        by_cases hs:s=turned
        · simp only [hs,if_true]
          exact Hr ht hl hle h1 n _ _ _ k (by omega)
        · simp only [hs,if_false]
          cases hg:legs[s.toNat]? with
          | none =>
            have:legs'[s.toNat]? = none:=by rw [List.getElem?_eq_none_iff] at hg ⊢; omega
            simp [this,BJ]
          | some d =>
            have hlt:s.toNat<legs.length:=by
              rcases Nat.lt_or_ge s.toNat legs.length with h' | h'
              · exact h'
              · rw [List.getElem?_eq_none h'] at hg; cases hg
            obtain⟨d',hd'⟩:∃ d',legs'[s.toNat]? = some d':=⟨_,List.getElem?_eq_getElem (by omega)⟩
            simp only [hd']
            have:=hle _ _ _ hg hd'
            exact Hr ht hl hle h1 n _ _ _ k (by omega)
    · simp only [hc,if_false]; exact .inl ⟨rfl,rfl⟩
end Go.Proofs.Ytokchpjijlebiaa
namespace Go.Proofs.Ytokchpjijlebiaa
open Go Go.RowKit
def Cw (r:Af) (f:Rg→Int):Ay:=⟨r.buses.map fun b=>f b.tm,r.buses.map fun _=>f r.turn,List.replicate (r.buses.length+r.spares.length) (r.legs.map f)⟩
theorem Mu (r:Af) (f:Rg→Int) (F:Rg→Option Int) (hF:∀ x,F x=some (f x)) (hb:r.legs.length≤20):∀ (n i:Nat)(acc:List Int),r.legs.length<n+i→i≤r.legs.length→acc.length=i→B3 n r (He.mk F) acc (i:Int)=some (acc++(r.legs.drop i).map f)
  | 0,i,acc,h,hi,_=>by omega
  | n+1,i,acc,h,hi,ha=>by
    rw [B3,BN]
    by_cases hx:i<r.legs.length
    · simp only [hx,decide_true,cond_true,AI _ _ hx,Option.bind_some,hF]
      rw [DH _ _ (by simp; omega)]
      simp only [Option.bind_some]
      rw [De i (by omega),Mu r f F hF hb n (i+1) _ (by omega) (by omega) (by simp; omega),AT hx,List.append_assoc]
      rfl
    · have:i=r.legs.length:=by omega
      simp [this]
theorem OZ (n:Nat) (l:List Int) (h:l.length≤1000):Bo n l=some l:=by
  unfold Bo
  simp [DH [] l (by simp; omega)]
theorem Mv (r:Af) (f:Rg→Int) (F:Rg→Option Int) (hF:∀ x,F x=some (f x)) (hb:r.buses.length≤20) (L:List Int) (hL:L.length≤20):∀ (n i:Nat)(x y:List Int)(z:List (List Int)),r.buses.length<n+i→i≤r.buses.length→x.length=i→y.length=i→z.length=i →
    B4 n r (He.mk F) L x y z (i:Int)=some (L,x++(r.buses.drop i).map (fun b=>f b.tm),y++(r.buses.drop i).map (fun _=>f r.turn),z++(r.buses.drop i).map (fun _=>L))
  | 0,i,x,y,z,h,hi,_,_,_=>by omega
  | n+1,i,x,y,z,h,hi,h1,h2,h3=>by
    rw [B4,BN]
    by_cases hx:i<r.buses.length
    · simp only [hx,decide_true,cond_true,AI _ _ hx,Option.bind_some,hF,OZ n L (by omega)]
      rw [DH _ _ (by simp; omega),DH _ _ (by simp; omega),DH _ _ (by simp; omega)]
      simp only [Option.bind_some]
      rw [De i (by omega),Mv r f F hF hb L hL n (i+1) _ _ _ (by omega) (by omega) (by simp; omega) (by simp; omega) (by simp; omega),AT hx,List.append_assoc,List.append_assoc,List.append_assoc]
      rfl
    · have:i=r.buses.length:=by omega
      simp [this]
theorem Mw (r:Af) (hb:r.spares.length≤20) (L:List Int) (hL:L.length≤20):∀ (n i:Nat)(z:List (List Int)),r.spares.length<n+i→i≤r.spares.length→z.length≤100+i →
    B5 n r L z (i:Int)=some (L,z++List.replicate (r.spares.length-i) L)
  | 0,i,z,h,hi,_=>by omega
  | n+1,i,z,h,hi,h3=>by
    rw [B5,BN]
    by_cases hx:i<r.spares.length
    · simp only [hx,decide_true,cond_true,Option.bind_some,OZ n L (by omega)]
      rw [DH _ _ (by simp; omega)]
      simp only [Option.bind_some]
      rw [De i (by omega),Mw r hb L hL n (i+1) _ (by omega) (by omega) (by simp; omega),List.append_assoc]
      rw [show r.spares.length-i=(r.spares.length-(i+1))+1 by omega,List.replicate_succ]
      rfl
    · have:i=r.spares.length:=by omega
      simp [this]
theorem Mi (n:Nat) (r:Af) (f:Rg→Int) (F:Rg→Option Int) (hF:∀ x,F x=some (f x)) (hn:50≤n) (h1:r.legs.length≤20) (h2:r.buses.length≤20) (h3:r.spares.length≤20):Bs n r (He.mk F)=some (Cw r f):=by
  unfold Bs
  have e1:=Mu r f F hF h1 n 0 [] (by omega) (by omega) rfl
  have e2:=Mv r f F hF h2 (r.legs.map f) (by simp; omega) n 0 [] [] [] (by omega) (by omega) rfl rfl rfl
  have e3:=Mw r h3 (r.legs.map f) (by simp; omega) n 0 (r.buses.map fun _=>r.legs.map f) (by omega) (by omega) (by simp; omega)
  simp only [Int.natCast_zero,List.nil_append,List.drop_zero,Nat.sub_zero] at e1 e2 e3
  simp only [e1,Option.bind_some,e2,e3,Cw,Option.some.injEq,Ay.mk.injEq,true_and]
  rw [List.map_const',List.replicate_append_replicate]
def BT (r:Af) (a:Ao) (t:Ay) (i:Nat):Bd×A9:=(⟨(r.buses[i]!).stop,t.tm[i]! + a.holds[i]! * r.unit,a.turns[i]!⟩,⟨t.legs[i]!,t.turns[i]!⟩)
def G0 (r:Af) (a:Ao) (t:Ay) (j:Nat):Option (Bd×A9):=if a.spares[j]! then some (⟨(r.spares[j]!).stop,(r.spares[j]!).tm,-1⟩,⟨t.legs[r.buses.length+j]!,0⟩) else none
def Cx (r:Af) (a:Ao) (t:Ay):List (Bd×A9):=(List.range r.buses.length).map (BT r a t)++(List.range r.spares.length).filterMap (G0 r a t)
structure J5 (r:Af) (a:Ao) (t:Ay):Prop where
  nb:r.buses.length≤6
  ns:r.spares.length≤4
  holds:a.holds.length=r.buses.length
  turns:a.turns.length=r.buses.length
  spares:a.spares.length=r.spares.length
  tm:t.tm.length=r.buses.length
  tt:t.turns.length=r.buses.length
  legs:t.legs.length=r.buses.length+r.spares.length
  hold:∀ x∈a.holds,0≤x∧x≤2
  unit:1≤r.unit∧r.unit≤30
  tms:∀ x∈t.tm,0≤x∧x≤10000
theorem B6 {α:Type} [Inhabited α] (l:List α) (i:Nat) (h:i<l.length):l[i]! = l[i]:=getElem!_pos l i h
theorem Jr {x u:Int} (h0:0≤x) (h1:x≤2) (h2:1≤u) (h3:u≤30):0≤x*u∧x*u≤60:=by
  have:x=0∨x=1∨x=2:=by omega
  rcases this with rfl | rfl | rfl <;> omega
theorem L6 (r:Af) (a:Ao) (t:Ay) (S:J5 r a t):∀ (n i:Nat)(x:List Bd)(y:List A9),r.buses.length<n+i→i≤r.buses.length→x.length=i→y.length=i →
    Bg n ⟨r,a⟩ t x y (i:Int)=some (x++((List.range r.buses.length).drop i).map (fun i=>(BT r a t i).1),y++((List.range r.buses.length).drop i).map (fun i=>(BT r a t i).2))
  | 0,i,x,y,h,hi,_,_=>by omega
  | n+1,i,x,y,h,hi,h1,h2=>by
    rw [Bg]
    simp only []
    rw [BN]
    have:=S.nb
    by_cases hx:i<r.buses.length
    · have q1:i<a.holds.length:=by rw [S.holds]; exact hx
      have q2:i<a.turns.length:=by rw [S.turns]; exact hx
      have q3:i<t.tm.length:=by rw [S.tm]; exact hx
      have q4:i<t.turns.length:=by rw [S.tt]; exact hx
      have q5:i<t.legs.length:=by rw [S.legs]; omega
      have q6:i<(List.range r.buses.length).length:=by simpa using hx
      obtain⟨b1,b2⟩:=Jr (S.hold _ (List.getElem_mem q1)).1 (S.hold _ (List.getElem_mem q1)).2 S.unit.1 S.unit.2
      have b3:=S.tms _ (List.getElem_mem q3)
      simp only [hx,decide_true,cond_true,AI _ _ hx,AI _ _ q1,AI _ _ q2,AI _ _ q3,AI _ _ q4,AI _ _ q5,Option.bind_some]
      rw [DH _ _ (by simp; omega),DH _ _ (by simp; omega)]
      simp only [Option.bind_some]
      rw [De i (by omega),L6 r a t S n (i+1) _ _ (by omega) (by omega) (by simp; omega) (by simp; omega),AT q6,List.append_assoc,List.append_assoc]
      rw [GF (x:=a.holds[i]*r.unit) (by omega) (by omega),GF (by omega) (by omega)]
      simp only [List.getElem_range,List.map_cons,BT,B6 _ _ hx,B6 _ _ q1,B6 _ _ q2,B6 _ _ q3,B6 _ _ q4,B6 _ _ q5]
      rfl
    · have:i=r.buses.length:=by omega
      simp [this]
theorem Iz (r:Af) (a:Ao) (t:Ay) (S:J5 r a t):∀ (n i:Nat)(x:List Bd)(y:List A9),r.spares.length<n+i→i≤r.spares.length→x.length≤100+i→y.length≤100+i →
    AY n ⟨r,a⟩ t x y (i:Int)=some (x++(((List.range r.spares.length).drop i).filterMap (G0 r a t)).map Prod.fst,y++(((List.range r.spares.length).drop i).filterMap (G0 r a t)).map Prod.snd)
  | 0,i,x,y,h,hi,_,_=>by omega
  | n+1,i,x,y,h,hi,h1,h2=>by
    rw [AY]
    simp only []
    rw [BN]
    have:=S.ns
    have:=S.nb
    by_cases hx:i<r.spares.length
    · have q1:i<a.spares.length:=by rw [S.spares]; exact hx
      have q5:r.buses.length+i<t.legs.length:=by rw [S.legs]; omega
      have q6:i<(List.range r.spares.length).length:=by simpa using hx
      simp only [hx,decide_true,cond_true,AI _ _ hx,AI _ _ q1,Option.bind_some]
      rw [AT q6]
      simp only [List.getElem_range,List.filterMap_cons,G0,B6 _ _ hx,B6 _ _ q1,B6 _ _ q5]
      cases hs:a.spares[i] with
      | true =>
        simp only [cond_true,if_true]
        rw [DH _ _ (by simp; omega)]
        simp only [Option.bind_some]
        rw [GF (x:=((r.buses.length:Nat):Int)+(i:Int)) (by omega) (by omega),show((r.buses.length:Nat):Int)+(i:Int)=((r.buses.length+i:Nat):Int) by omega,AI _ _ q5]
        simp only [Option.bind_some]
        rw [DH _ _ (by simp; omega)]
        simp only [Option.bind_some]
        rw [De i (by omega),Iz r a t S n (i+1) _ _ (by omega) (by omega) (by simp; omega) (by simp; omega),List.append_assoc,List.append_assoc]
        rfl
      | false =>
        simp only [cond_false]
        rw [De i (by omega),Iz r a t S n (i+1) _ _ (by omega) (by omega) (by omega) (by omega)]
        rfl
    · have:i=r.spares.length:=by omega
      have hd:(List.range r.spares.length).drop r.spares.length=[]:=List.drop_eq_nil_of_le (by simp)
      simp [this,hd]
theorem Pa (n:Nat) (r:Af) (a:Ao) (t:Ay) (S:J5 r a t) (hn:50≤n):BW n ⟨r,a⟩ t=some ((Cx r a t).map Prod.fst,(Cx r a t).map Prod.snd):=by
  have:=S.nb
  have:=S.ns
  have e1:=L6 r a t S n 0 [] [] (by omega) (by omega) rfl rfl
  have e2:=Iz r a t S n 0 ((List.range r.buses.length).map fun i=>(BT r a t i).1) ((List.range r.buses.length).map fun i=>(BT r a t i).2) (by omega) (by omega) (by simp; omega) (by simp; omega)
  simp only [Int.natCast_zero,List.nil_append,List.drop_zero] at e1 e2
  unfold BW
  simp only [e1,Option.bind_some,e2,Cx,List.map_append,List.map_map]
  rfl
end Go.Proofs.Ytokchpjijlebiaa
namespace Go.Proofs.Ytokchpjijlebiaa
open Go Go.RowKit
def L7 (ms:List (List (Int×Rg))) (f:Int→List (Int×Rg)→List (Int×Rg)) (pl:List (Int×Int)):List (List (Int×Rg)):=pl.foldl (fun ms p=>ms.modify p.1.toNat (f p.2)) ms
theorem Gs (f:Int→List (Int×Rg)→List (Int×Rg)):∀ (pl:List (Int×Int))(ms:List (List (Int×Rg))),(L7 ms f pl).length=ms.length
  | [],_=>rfl
  | p::r,ms=>by
    show(L7 (ms.modify p.1.toNat (f p.2)) f r).length=_
    rw [Gs f r]; simp
theorem Lg (f:Int→List (Int×Rg)→List (Int×Rg)):∀ (pl:List (Int×Int))(ms:List (List (Int×Rg)))(k:Nat),(pl.map Prod.fst).Nodup→(∀ p∈pl,0≤p.1) →
    (L7 ms f pl)[k]? = (ms[k]?).map fun m=>match BJ pl (k:Int) with | some t=>f t m | none=>m
  | [],ms,k,_,_=>by simp [L7,BJ]
  | p::r,ms,k,hn,h0=>by
    show(L7 (ms.modify p.1.toNat (f p.2)) f r)[k]? = _
    rw [List.map_cons,List.nodup_cons] at hn
    rw [Lg f r _ k hn.2 (fun q hq=>h0 q (List.mem_cons_of_mem _ hq)),List.getElem?_modify,BJ]
    have hp:=h0 p (by simp)
    by_cases hk:p.1=(k:Int)
    · have hr:BJ r (k:Int)=none:=HV fun q hq hqk=>hn.1 (by rw [hk,← hqk]; exact List.mem_map_of_mem hq)
      have:p.1.toNat=k:=by omega
      simp only [this,if_true,if_pos hk,hr]
      cases ms[k]? <;> rfl
    · have:p.1.toNat≠k:=by omega
      simp only [this,hk,if_false]
      cases ms[k]? <;> rfl
theorem Lh (g:List (Option (List (Int×Rg)))→Int→Int→Option (List (Option (List (Int×Rg))))) (f:Int→List (Int×Rg)→List (Int×Rg)) (st:Nat)
    (hg:∀ (ms:List (List (Int×Rg)))(s:Nat)(t:Int),ms.length=st→s<st→g (ms.map some) (s:Int) t=some ((ms.modify s (f t)).map some)):∀ (pl:List (Int×Int))(ms:List (List (Int×Rg))),ms.length=st→(∀ p∈pl,0≤p.1∧p.1<(st:Int)) →
    pl.foldlM (fun x p=>g x p.1 p.2) (ms.map some)=some ((L7 ms f pl).map some)
  | [],ms,_,_=>rfl
  | p::r,ms,hm,hp=>by
    have h1:=hp p (by simp)
    rw [List.foldlM_cons]
    have:g (ms.map some) p.1 p.2=some ((ms.modify p.1.toNat (f p.2)).map some):=by
      have:=hg ms p.1.toNat p.2 hm (by omega)
      rwa [show((p.1.toNat:Nat):Int)=p.1 by omega] at this
    rw [this]
    exact Lh g f st hg r _ (by simpa using hm) fun q hq=>hp q (List.mem_cons_of_mem _ hq)
theorem In {α:Type} (f:α→α):∀ (ms:List α)(s:Nat),(h:s<ms.length)→(ms.map some).set s (some (f ms[s]))=(ms.modify s f).map some:=by
  intro ms s h
  apply List.ext_getElem?
  intro k
  rw [List.getElem?_map,List.getElem?_modify,List.getElem?_set]
  by_cases hk:s=k
  · subst hk; simp [h]
  · simp [hk]
def C6 (st:Int) (n:Nat) (p:(Bd×A9)×(Bd×A9)) (k:Int):Option Rg:=match BJ (Ce st p.1.1.turned p.1.2.turn p.1.2.legs n p.1.1.tm p.1.1.stop) k,BJ (Ce st p.2.1.turned p.2.2.turn p.2.2.legs n p.2.1.tm p.2.1.stop) k with
  | some a,some b=>some ⟨a,b⟩
  | _,_=>none
def Tg (st:Int) (n:Nat) (p:(Bd×A9)×(Bd×A9)):Prop:=∀ k,BJ (Ce st p.1.1.turned p.1.2.turn p.1.2.legs n p.1.1.tm p.1.1.stop) k=none↔BJ (Ce st p.2.1.turned p.2.2.turn p.2.2.legs n p.2.1.tm p.2.1.stop) k=none
structure E9 (r:Af) (p:Bd×A9):Prop where
  q:Q7 p.2.turn p.2.legs
  len:p.2.legs.length=r.legs.length
  t:2*p.1.turned+1<(r.legs.length:Int)+1
  tm0:0≤p.1.tm
  tm1:p.1.tm≤100000
  s0:0≤p.1.stop
  s1:p.1.stop≤(r.legs.length:Int)+1
theorem Pb {K α:Type} [DecidableEq K]:∀ {l:List (K×α)} {k:K} (x:α),(∀ p∈l,p.1≠k)→Fx l k x=l++[(k,x)]
  | [],_,_,_=>rfl
  | p::r,k,x,h=>by
    rw [Fx,if_neg (h p (by simp)),Pb x fun q hq=>h q (List.mem_cons_of_mem _ hq)]
    rfl
theorem Pc {K α:Type} [DecidableEq K]:∀ {l:List (K×α)} {k:K} (x y:α),(∀ p∈l,p.1≠k)→Fx (l++[(k,x)]) k y=l++[(k,y)]
  | [],k,x,y,_=>by simp [Fx]
  | p::r,k,x,y,h=>by
    rw [List.cons_append,Fx,if_neg (h p (by simp)),Pc x y fun q hq=>h q (List.mem_cons_of_mem _ hq)]
    rfl
theorem Mx {K α:Type} [DecidableEq K]:∀ {l:List (K×α)} {k:K} (x:α),(∀ p∈l,p.1≠k)→BJ (l++[(k,x)]) k=some x
  | [],k,x,_=>by simp [BJ]
  | p::r,k,x,h=>by
    rw [List.cons_append,BJ,if_neg (h p (by simp)),Mx x fun q hq=>h q (List.mem_cons_of_mem _ hq)]
def g1 (i:Int) (s:List (Option (List (Int×Rg)))) (a b:Int):Option (List (Option (List (Int×Rg)))):=(Cd s a).bind fun x66=>x66.bind fun m=>(upd s a (some (Fx m i (Rg.mk b b)))).bind fun u=>some u
def g2 (i:Int) (s:List (Option (List (Int×Rg)))) (a b:Int):Option (List (Option (List (Int×Rg)))):=(Cd s a).bind fun x87=>(Cd s a).bind fun x92=>x92.bind fun m_514=>x87.bind fun m_527=>(upd s a (some (Fx m_527 i (Rg.mk (E5 m_514 i ((Rg.mk 0 0):Rg)).1.lo b)))).bind fun u=>some u
theorem Th (i:Int) (st:Nat) (ms:List (List (Int×Rg))) (s:Nat) (t:Int) (h1:ms.length=st) (h2:s<st):g1 i (ms.map some) (s:Int) t=some ((ms.modify s (fun m=>Fx m i (Rg.mk t t))).map some):=by
  have hs:s<ms.length:=by omega
  unfold g1
  rw [AI _ s (by simpa using hs)]
  simp only [Option.bind_some,List.getElem_map]
  rw [Ms _ s _ (by simpa using hs)]
  simp only [Option.bind_some]
  rw [In (fun m=>Fx m i (Rg.mk t t)) ms s hs]
theorem Ti (i:Int) (st:Nat) (ms:List (List (Int×Rg))) (s:Nat) (t:Int) (h1:ms.length=st) (h2:s<st):g2 i (ms.map some) (s:Int) t=some ((ms.modify s (fun m=>Fx m i (Rg.mk (E5 m i ((Rg.mk 0 0):Rg)).1.lo t))).map some):=by
  have hs:s<ms.length:=by omega
  unfold g2
  rw [AI _ s (by simpa using hs)]
  simp only [Option.bind_some,List.getElem_map]
  rw [Ms _ s _ (by simpa using hs)]
  simp only [Option.bind_some]
  rw [In (fun m=>Fx m i (Rg.mk (E5 m i ((Rg.mk 0 0):Rg)).1.lo t)) ms s hs]
theorem J6 {α:Type} (x:Option α):(x.bind fun s1=>some (s1,true))=x.map fun s'=>(s',true):=by cases x <;> rfl
def AX (st:Int) (n:Nat) (k:Int):Nat→List ((Bd×A9)×(Bd×A9))→List (Int×Rg)
  | _,[]=>[]
  | i,p::r=>match C6 st n p k with
    | some x=>((i:Int),x)::AX st n k (i+1) r
    | none=>AX st n k (i+1) r
theorem L8 (w:Bm) (lo hi:List (Bd×A9)) (hl:w.route.legs.length≤20) (hlen:lo.length=hi.length) (h1:∀ p∈lo,E9 w.route p) (h2:∀ p∈hi,E9 w.route p) (N:Nat) (hN:60≤N) (hN2:N≤1000) (h20:lo.length≤20)
    (hA:∀ n,30≤n→n≤1000→∀ p∈lo.zip hi,Tg ((w.route.legs.length:Int)+1) n p∧∀ k,C6 ((w.route.legs.length:Int)+1) n p k=C6 ((w.route.legs.length:Int)+1) 40 p k):∀ (n i:Nat)(ms:List (List (Int×Rg))),lo.length+30<n+i→n≤1000→i≤lo.length→ms.length=w.route.legs.length+1→(∀ m∈ms,∀ p∈m,p.1<(i:Int)) →
    Bi n w (lo.map Prod.fst,lo.map Prod.snd) (hi.map Prod.fst,hi.map Prod.snd) (ms.map some) (i:Int)=some (((List.range (w.route.legs.length+1)).map fun(k:Nat)=>(ms[k]?.getD [])++AX ((w.route.legs.length:Int)+1) 40 k i ((lo.zip hi).drop i)).map some)
  | 0,i,ms,h,_,hi',_,_=>by omega
  | n+1,i,ms,h,hn,hi',hm,hkeys=>by
    rw [Bi]
    simp only []
    rw [BN,List.length_map]
    by_cases hx:i<lo.length
    · have hxh:i<hi.length:=by omega
      have hz:i<(lo.zip hi).length:=by simp; omega
      have o1:=h1 _ (List.getElem_mem hx)
      have o2:=h2 _ (List.getElem_mem hxh)
      have hmem:(lo[i],hi[i])∈lo.zip hi:=by
        have:=List.getElem_mem hz
        rwa [List.getElem_zip] at this
      obtain⟨hAl,hSp⟩:=hA n (by omega) (by omega) _ hmem
      simp only [hx,decide_true,cond_true]
      rw [AI _ i (by simpa using hx),AI _ i (by simpa using hx),AI _ i (by simpa using hxh),AI _ i (by simpa using hxh)]
      simp only [Option.bind_some,List.getElem_map,C0]
      show((Bt n (fun s a b=>(g1 i s a b).bind fun s1=>some (s1,true)) _ _ _ _).bind _)=_
      rw [N7 n _ (g1 i) (fun s a b=>J6 (g1 i s a b)) _ _ _ _ hl o1.q o1.len o1.t o1.tm0 o1.tm1 (by omega) (by omega) o1.s0 o1.s1]
      rw [Lh (g1 i) _ (w.route.legs.length+1) (Th i _) _ _ hm (fun p hp=>by
          have:=EZ o1.t n _ _ p hp
          constructor <;> omega)]
      simp only [Option.bind_some]
      show((Bt n (fun s a b=>(g2 i s a b).bind fun s1=>some (s1,true)) _ _ _ _).bind _)=_
      rw [N7 n _ (g2 i) (fun s a b=>J6 (g2 i s a b)) _ _ _ _ hl o2.q o2.len o2.t o2.tm0 o2.tm1 (by omega) (by omega) o2.s0 o2.s1]
      rw [Lh (g2 i) _ (w.route.legs.length+1) (Ti i _) _ _ (by rw [Gs]; exact hm) (fun p hp=>by
          have:=EZ o2.t n _ _ p hp
          constructor <;> omega)]
      simp only [Option.bind_some]
      rw [De i (by omega)]
      -- each stop's map
      have hget:∀ k:Nat,(L7 (L7 ms (fun t m=>Fx m (i:Int) (Rg.mk t t)) (Ce ((w.route.legs.length:Int)+1) lo[i].1.turned lo[i].2.turn lo[i].2.legs n lo[i].1.tm lo[i].1.stop)) (fun t m=>Fx m (i:Int) (Rg.mk (E5 m (i:Int) ((Rg.mk 0 0):Rg)).1.lo t)) (Ce ((w.route.legs.length:Int)+1) hi[i].1.turned hi[i].2.turn hi[i].2.legs n hi[i].1.tm hi[i].1.stop))[k]? = (ms[k]?).map fun m=>m++(match C6 ((w.route.legs.length:Int)+1) 40 (lo[i],hi[i]) k with | some x=>[((i:Int),x)] | none=>[]):=fun k=>by
        rw [Lg _ _ _ k (FP o2.t n _ _) (fun p hp=>(EZ o2.t n _ _ p hp).2.1),Lg _ _ _ k (FP o1.t n _ _) (fun p hp=>(EZ o1.t n _ _ p hp).2.1),← hSp]
        cases hmk:ms[k]? with
        | none=>rfl
        | some m =>
          have hk:∀ p∈m,p.1≠(i:Int):=fun p hp=>by
            have:=hkeys m (List.mem_of_getElem? hmk) p hp
            omega
          have hal:=hAl k
          simp only [] at hal
          simp only [Option.map_some,C6]
          cases hlo:BJ (Ce ((w.route.legs.length:Int)+1) lo[i].1.turned lo[i].2.turn lo[i].2.legs n lo[i].1.tm lo[i].1.stop) (k:Int) with
          | none =>
            rw [hal.1 hlo]
            simp
          | some a =>
            cases hhi:BJ (Ce ((w.route.legs.length:Int)+1) hi[i].1.turned hi[i].2.turn hi[i].2.legs n hi[i].1.tm hi[i].1.stop) (k:Int) with
            | none=>rw [hal.2 hhi] at hlo; cases hlo
            | some b =>
              simp only [Pb _ hk,Pc _ _ hk,E5,Mx _ hk]
      rw [L8 w lo hi hl hlen h1 h2 N hN hN2 h20 hA n (i+1) _ (by omega) (by omega) (by omega) (by rw [Gs,Gs]; exact hm) (fun m hm' p hp=>by
        obtain⟨k,hk⟩:=List.mem_iff_getElem?.1 hm'
        rw [hget k] at hk
        obtain⟨m0,h3,rfl⟩:=Option.map_eq_some_iff.1 hk
        rcases List.mem_append.1 hp with hp | hp
        · have:=hkeys m0 (List.mem_of_getElem? h3) p hp
          omega
        · split at hp
          · simp at hp; subst hp; simp only; omega
          · simp at hp)]
      congr 2
      apply List.map_congr_left
      intro k hk
      rw [List.mem_range] at hk
      rw [hget k,AT hz,List.getElem_zip]
      have hkm:k<ms.length:=by omega
      rw [List.getElem?_eq_getElem hkm]
      simp only [Option.map_some,Option.getD_some,AX]
      cases C6 ((w.route.legs.length:Int)+1) 40 (lo[i],hi[i]) (k:Int) with
      | none=>simp
      | some x=>simp
    · have hxe:i=lo.length:=by omega
      have hd:(lo.zip hi).drop i=[]:=List.drop_eq_nil_of_le (by simp; omega)
      simp only [hx,decide_false,cond_false,hd,AX,List.append_nil,Option.some.injEq]
      congr 1
      apply List.ext_getElem?
      intro k
      rw [List.getElem?_map]
      by_cases hk:k<w.route.legs.length+1
      · rw [List.getElem?_range hk,List.getElem?_eq_getElem (by omega)]
        simp
        rw [List.getElem?_eq_getElem (by omega)]
        rfl
      · rw [List.getElem?_eq_none (by omega),List.getElem?_eq_none (by simp; omega)]
        rfl
end Go.Proofs.Ytokchpjijlebiaa
namespace Go.Proofs.Ytokchpjijlebiaa
open Go Go.RowKit
def DO (x:Rg) (m:Int):Bool:=decide (0≤x.lo∧x.lo≤x.hi∧x.hi≤m)
def Kq (r:Af) (b:CG):Bool:=decide (0≤b.stop∧b.stop≤(r.legs.length:Int)) && DO b.tm 2000
def Gt (r:Af) (s:AG):Bool:=decide (0≤s.stop∧s.stop≤(r.legs.length:Int)) && decide (0≤s.tm∧s.tm≤2000)
def On (r:Af):Bool:=decide (r.legs.length % 2=1∧r.legs.length≤7) && DO r.turn 300 && decide (1≤r.unit∧r.unit≤30) && decide (0≤r.gap∧r.gap≤2000) && decide (0≤r.fr∧r.fr≤r.to_∧r.to_≤2000) && r.legs.all (fun x=>DO x 300) && r.buses.all (Kq r) && r.spares.all (Gt r)
def CB (r:Af):Int:=if r.buses.length>4∨r.spares.length>2 then 3 else if On r then 0 else 1
theorem DL (n:Nat) (x a b:Int):DP n x a b=some (decide (a≤x∧x≤b)):=by
  unfold DP
  by_cases h:a≤x <;> simp [h]
theorem Gw (n:Nat) (x a b:Int):Bu n x a b=some (decide (a≤x∧x≤b)):=by
  unfold Bu
  by_cases h:a≤x <;> simp [h]
theorem I0 (n:Nat) (x:Rg) (m:Int):G4 n x m=some (DO x m):=by
  unfold G4 DO
  rw [DL]
  by_cases h:0≤x.lo∧x.lo≤x.hi
  · simp [h]
  · simp only [h,decide_false,Option.bind_some,cond_false,Option.some.injEq]
    symm; rw [decide_eq_false_iff_not]; omega
theorem Q8 (n:Nat) (x:Rg) (m:Int):Cs n x m=some (DO x m):=by
  unfold Cs DO
  by_cases h:0≤x.lo <;> by_cases h2:x.lo≤x.hi <;> simp [h,h2]
theorem Pd (n:Nat) (x:Rg):Bz n x=some (DO x 300):=by
  unfold Bz; rw [Q8]; rfl
theorem N8 (n:Nat) (x:Int):Cz n x=some (decide (0≤x∧x≤2000)):=by
  unfold Cz; rw [Gw]; rfl
theorem Gu (n:Nat) (r:Af) (h:r.legs.length≤20):E1 n r=some ((r.legs.length:Int)+1):=by
  unfold E1; rw [GF (by omega) (by omega)]
theorem L9 (r:Af) (hb:r.legs.length≤20):∀ (n i:Nat),r.legs.length<n+i→i≤r.legs.length→D4 n r (i:Int)=some (if (r.legs.drop i).all (fun x=>DO x 300) then Ex.go () else Ex.ret 1)
  | 0,i,h,hi=>by omega
  | n+1,i,h,hi=>by
    rw [D4,BN]
    by_cases hx:i<r.legs.length
    · simp only [hx,decide_true,cond_true,AI _ _ hx,Option.bind_some,I0]
      rw [AT hx,List.all_cons]
      cases DO r.legs[i] 300 with
      | true=>simp only [Bool.not_true,cond_false,Bool.true_and]; rw [De i (by omega),L9 r hb n (i+1) (by omega) (by omega)]
      | false=>rfl
    · have:i=r.legs.length:=by omega
      simp [this]
theorem LA (r:Af) (hl:r.legs.length≤20) (hb:r.buses.length≤20):∀ (n i:Nat),r.buses.length<n+i→i≤r.buses.length→D5 n r (i:Int)=some (if (r.buses.drop i).all (Kq r) then Ex.go () else Ex.ret 1)
  | 0,i,h,hi=>by omega
  | n+1,i,h,hi=>by
    rw [D5,BN]
    by_cases hx:i<r.buses.length
    · simp only [hx,decide_true,cond_true,AI _ _ hx,Option.bind_some,I0,Gu n r hl,DL]
      rw [AT hx,List.all_cons,GF (x:=(r.legs.length:Int)+1-1) (by omega) (by omega),show(r.legs.length:Int)+1-1=r.legs.length by omega]
      unfold Kq
      by_cases h1:0≤(r.buses[i]).stop∧(r.buses[i]).stop≤(r.legs.length:Int)
      · simp only [h1,and_self,decide_true,Bool.not_true,cond_false,Bool.true_and]
        cases DO (r.buses[i]).tm 2000 with
        | true =>
          simp only [Bool.not_true,cond_false,Bool.true_and]; rw [De i (by omega),LA r hl hb n (i+1) (by omega) (by omega)]
          rfl
        | false=>rfl
      · simp only [h1,decide_false,Bool.not_false,cond_true,Bool.false_and]
        rfl
    · have:i=r.buses.length:=by omega
      simp [this]
theorem LB (r:Af) (hl:r.legs.length≤20) (hb:r.spares.length≤20):∀ (n i:Nat),r.spares.length<n+i→i≤r.spares.length→D6 n r (i:Int)=some (if (r.spares.drop i).all (Gt r) then Ex.go () else Ex.ret 1)
  | 0,i,h,hi=>by omega
  | n+1,i,h,hi=>by
    rw [D6,BN]
    by_cases hx:i<r.spares.length
    · simp only [hx,decide_true,cond_true,AI _ _ hx,Option.bind_some,Gu n r hl,DL]
      rw [AT hx,List.all_cons,GF (x:=(r.legs.length:Int)+1-1) (by omega) (by omega),show(r.legs.length:Int)+1-1=r.legs.length by omega]
      unfold Gt
      by_cases h1:0≤(r.spares[i]).stop∧(r.spares[i]).stop≤(r.legs.length:Int)
      · simp only [h1,and_self,decide_true,Bool.not_true,cond_false,Bool.true_and]
        by_cases h2:0≤(r.spares[i]).tm∧(r.spares[i]).tm≤2000
        · simp only [h2,and_self,decide_true,Bool.not_true,cond_false,Bool.true_and]; rw [De i (by omega),LB r hl hb n (i+1) (by omega) (by omega)]
          rfl
        · simp only [h2,decide_false,Bool.not_false,cond_true,Bool.false_and]
          rfl
      · simp only [h1,decide_false,Bool.not_false,cond_true,Bool.false_and]
        rfl
    · have:i=r.spares.length:=by omega
      simp [this]
theorem SB (k:Nat) (h:k≤1000):Int.tmod ((k:Nat):Int) 2=((k % 2:Nat):Int):=rfl
theorem Oo (n:Nat) (r:Af) (hn:50≤n) (h1:r.legs.length≤20) (h2:r.buses.length≤20) (h3:r.spares.length≤20):Hv n r=some (CB r):=by
  unfold Hv CB
  have e1:=L9 r h1 n 0 (by omega) (by omega)
  have e2:=LA r h1 h2 n 0 (by omega) (by omega)
  have e3:=LB r h1 h3 n 0 (by omega) (by omega)
  simp only [Int.natCast_zero,List.drop_zero] at e1 e2 e3
  simp only [I0,DL,e1,e2,e3,Option.bind_some,SB _ (show r.legs.length≤1000 by omega)]
  by_cases a1:r.buses.length>4
  · have a1':decide (((r.buses.length:Nat):Int)>4)=true:=by simp; omega
    simp only [a1',a1,cond_true,Option.bind_some,true_or,if_true]
  have a1':decide (((r.buses.length:Nat):Int)>4)=false:=by simp; omega
  by_cases a2:r.spares.length>2
  · have a2':decide (((r.spares.length:Nat):Int)>2)=true:=by simp; omega
    simp only [a1',a2',a2,cond_true,cond_false,Option.bind_some,or_true,if_true]
  have a2':decide (((r.spares.length:Nat):Int)>2)=false:=by simp; omega
  simp only [a1',a2',cond_false,Option.bind_some,a1,a2,or_self,if_false]
  unfold On
  by_cases b1 : ¬ (r.legs.length % 2=1)
  · have:r.legs.length % 2=0:=by omega
    simp [this]
  replace b1:=Decidable.not_not.1 b1
  have b1':(((r.legs.length % 2:Nat):Int) == 0)=false:=by rw [b1]; rfl
  by_cases b2 : ¬ (r.legs.length≤7)
  · have b2':decide (((r.legs.length:Nat):Int)>7)=true:=by simp; omega
    simp only [b1',b2',b2,and_false,decide_false,Bool.false_and,cond_false,cond_true,Option.bind_some]
    rfl
  replace b2:=Decidable.not_not.1 b2
  have b2':decide (((r.legs.length:Nat):Int)>7)=false:=by simp; omega
  simp only [b1',b2',cond_false,b1,b2,and_self,decide_true,Bool.true_and]
  cases DO r.turn 300
  · simp
  simp only [Bool.not_true,cond_false,Bool.true_and]
  by_cases b3 : ¬ (1≤r.unit∧r.unit≤30)
  · simp [b3]
  replace b3:=Decidable.not_not.1 b3
  simp only [b3,and_self,decide_true,Bool.not_true,cond_false,Option.bind_some,Bool.true_and]
  by_cases b4 : ¬ (0≤r.gap∧r.gap≤2000)
  · simp [b4]
  replace b4:=Decidable.not_not.1 b4
  simp only [b4,and_self,decide_true,Bool.not_true,cond_false,Option.bind_some,Bool.true_and]
  by_cases b5 : ¬ (0≤r.fr∧r.fr≤r.to_)
  · simp only [b5,decide_false,Bool.not_false,cond_true,Option.bind_some]
    have : ¬ (0≤r.fr∧r.fr≤r.to_∧r.to_≤2000):=fun h=>b5 ⟨h.1,h.2.1⟩
    simp [this]
  replace b5:=Decidable.not_not.1 b5
  simp only [b5,and_self,decide_true,Bool.not_true,cond_false,Option.bind_some]
  by_cases b6 : ¬ (r.to_≤2000)
  · have : ¬ (0≤r.fr∧r.fr≤r.to_∧r.to_≤2000):=fun h=>b6 h.2.2
    have b6':decide (r.to_>2000)=true:=by simp; omega
    simp only [b6,b6',and_false,decide_false,Bool.false_and,cond_true,Option.bind_some]
    rfl
  replace b6:=Decidable.not_not.1 b6
  have b6':decide (r.to_>2000)=false:=by simp; omega
  simp only [b6',b6,b5,and_self,decide_true,cond_false,Bool.true_and]
  cases r.legs.all (fun x=>DO x 300)
  · rfl
  cases r.buses.all (Kq r)
  · rfl
  cases r.spares.all (Gt r)
  · rfl
  rfl
theorem Io (l:List Rg) (F:Rg→Option Bool) (p:Rg→Bool) (hF:∀ x,F x=some (p x)) (hb:l.length≤20):∀ (n i:Nat),l.length<n+i→i≤l.length→∃ e,Ap n l F (i:Int)=some e∧((∃ k:Nat,e=Ex.ret (k:Int))∧(l.drop i).any p=true∨e=Ex.go ()∧(l.drop i).any p=false)
  | 0,i,h,hi=>by omega
  | n+1,i,h,hi=>by
    rw [Ap,BN]
    by_cases hx:i<l.length
    · simp only [hx,decide_true,cond_true,AI _ _ hx,Option.bind_some,hF]
      rw [AT hx,List.any_cons]
      cases p l[i] with
      | true=>exact⟨_,rfl,.inl ⟨⟨i,rfl⟩,rfl⟩⟩
      | false=>simp only [cond_false,Bool.false_or]; rw [De i (by omega)]; exact Io l F p hF hb n (i+1) (by omega) (by omega)
    · have:i=l.length:=by omega
      exact⟨Ex.go (),by simp [this],.inr ⟨rfl,by simp [this]⟩⟩
theorem Rb (n:Nat) (hn:50≤n) (l:List Rg) (F:Rg→Option Bool) (p:Rg→Bool) (hF:∀ x,F x=some (p x)) (hb:l.length≤20):BF n l F=some (l.all p):=by
  unfold BF AC AJ
  obtain⟨e,he,h⟩:=Io l (fun y0=>AP n y0 F) (fun x=>!p x) (fun x=>by simp [AP,hF]) hb n 0 (by omega) (by omega)
  simp only [Int.natCast_zero,List.drop_zero] at he h
  rw [he]
  have hall:l.all p=!(l.any fun x=>!p x):=by rw [List.not_any_eq_all_not]; simp
  rcases h with⟨⟨k,rfl⟩,h⟩ | ⟨rfl,h⟩
  · rw [hall,h]
    simp [Ex.bind]
  · rw [hall,h]
    simp [Ex.bind]
theorem Hs (l:List CG) (F:CG→Option Bool) (p:CG→Bool) (hF:∀ x,F x=some (p x)) (hb:l.length≤20):∀ (n i:Nat),l.length<n+i→i≤l.length→∃ e,Ax n l F (i:Int)=some e∧((∃ k:Nat,e=Ex.ret (k:Int))∧(l.drop i).any p=true∨e=Ex.go ()∧(l.drop i).any p=false)
  | 0,i,h,hi=>by omega
  | n+1,i,h,hi=>by
    rw [Ax,BN]
    by_cases hx:i<l.length
    · simp only [hx,decide_true,cond_true,AI _ _ hx,Option.bind_some,hF]
      rw [AT hx,List.any_cons]
      cases p l[i] with
      | true=>exact⟨_,rfl,.inl ⟨⟨i,rfl⟩,rfl⟩⟩
      | false=>simp only [cond_false,Bool.false_or]; rw [De i (by omega)]; exact Hs l F p hF hb n (i+1) (by omega) (by omega)
    · have:i=l.length:=by omega
      exact⟨Ex.go (),by simp [this],.inr ⟨rfl,by simp [this]⟩⟩
theorem Qd (n:Nat) (hn:50≤n) (l:List CG) (F:CG→Option Bool) (p:CG→Bool) (hF:∀ x,F x=some (p x)) (hb:l.length≤20):BX n l F=some (l.all p):=by
  unfold BX AO AW
  obtain⟨e,he,h⟩:=Hs l (fun y0=>Ba n y0 F) (fun x=>!p x) (fun x=>by simp [Ba,hF]) hb n 0 (by omega) (by omega)
  simp only [Int.natCast_zero,List.drop_zero] at he h
  rw [he]
  have hall:l.all p=!(l.any fun x=>!p x):=by rw [List.not_any_eq_all_not]; simp
  rcases h with⟨⟨k,rfl⟩,h⟩ | ⟨rfl,h⟩
  · rw [hall,h]
    simp [Ex.bind]
  · rw [hall,h]
    simp [Ex.bind]
theorem G1 (l:List AG) (F:AG→Option Bool) (p:AG→Bool) (hF:∀ x,F x=some (p x)) (hb:l.length≤20):∀ (n i:Nat),l.length<n+i→i≤l.length→∃ e,Aq n l F (i:Int)=some e∧((∃ k:Nat,e=Ex.ret (k:Int))∧(l.drop i).any p=true∨e=Ex.go ()∧(l.drop i).any p=false)
  | 0,i,h,hi=>by omega
  | n+1,i,h,hi=>by
    rw [Aq,BN]
    by_cases hx:i<l.length
    · simp only [hx,decide_true,cond_true,AI _ _ hx,Option.bind_some,hF]
      rw [AT hx,List.any_cons]
      cases p l[i] with
      | true=>exact⟨_,rfl,.inl ⟨⟨i,rfl⟩,rfl⟩⟩
      | false=>simp only [cond_false,Bool.false_or]; rw [De i (by omega)]; exact G1 l F p hF hb n (i+1) (by omega) (by omega)
    · have:i=l.length:=by omega
      exact⟨Ex.go (),by simp [this],.inr ⟨rfl,by simp [this]⟩⟩
theorem Oq (n:Nat) (hn:50≤n) (l:List AG) (F:AG→Option Bool) (p:AG→Bool) (hF:∀ x,F x=some (p x)) (hb:l.length≤20):BG n l F=some (l.all p):=by
  unfold BG AD AK
  obtain⟨e,he,h⟩:=G1 l (fun y0=>AQ n y0 F) (fun x=>!p x) (fun x=>by simp [AQ,hF]) hb n 0 (by omega) (by omega)
  simp only [Int.natCast_zero,List.drop_zero] at he h
  rw [he]
  have hall:l.all p=!(l.any fun x=>!p x):=by rw [List.not_any_eq_all_not]; simp
  rcases h with⟨⟨k,rfl⟩,h⟩ | ⟨rfl,h⟩
  · rw [hall,h]
    simp [Ex.bind]
  · rw [hall,h]
    simp [Ex.bind]
theorem Qe (n:Nat) (b:CG) (r:Af) (h:r.legs.length≤20):B0 n b r=some (Kq r b):=by
  unfold B0 Kq
  rw [Gf n r _ h,Q8]
  by_cases h1:0≤b.stop∧b.stop≤(r.legs.length:Int)
  · have:0≤b.stop∧b.stop<(r.legs.length:Int)+1:=⟨h1.1,by omega⟩
    simp [h1,this]
  · have : ¬ (0≤b.stop∧b.stop<(r.legs.length:Int)+1):=fun h=>h1 ⟨h.1,by omega⟩
    simp only [this,h1,decide_false,Option.bind_some,cond_false,Bool.false_and]
theorem Qf (n:Nat) (b:AG) (r:Af) (h:r.legs.length≤20):B1 n b r=some (Gt r b):=by
  unfold B1 Gt
  rw [Gf n r _ h,N8]
  by_cases h1:0≤b.stop∧b.stop≤(r.legs.length:Int)
  · have:0≤b.stop∧b.stop<(r.legs.length:Int)+1:=⟨h1.1,by omega⟩
    simp [h1,this]
  · have : ¬ (0≤b.stop∧b.stop<(r.legs.length:Int)+1):=fun h=>h1 ⟨h.1,by omega⟩
    simp only [this,h1,decide_false,Option.bind_some,cond_false,Bool.false_and]
theorem N9 (n:Nat) (r:Af) (h:r.legs.length≤20):BB n r=some ((((r.legs.length+1) / 2:Nat):Int)):=by
  unfold BB
  rw [E0 n r h]
  simp only [Option.bind_some,Option.some.injEq]
  rw [show((r.legs.length:Int)+1)=((r.legs.length+1:Nat):Int) by omega,show Int.tdiv ((r.legs.length+1:Nat):Int) 2=(((r.legs.length+1) / 2:Nat):Int) from rfl,GF (by omega) (by omega)]
theorem Rw (n:Nat) (r:Af) (hn:50≤n) (h1:r.legs.length≤20) (h2:r.buses.length≤20) (h3:r.spares.length≤20):BH n r=some (CB r):=by
  unfold BH CB
  rw [Rb n hn r.legs _ (fun x=>DO x 300) (fun x=>Pd n x) h1,Qd n hn r.buses _ (Kq r) (fun x=>Qe n x r h1) h2,Oq n hn r.spares _ (Gt r) (fun x=>Qf n x r h1) h3]
  simp only [Pd,Gw,N8,N9 n r h1,Option.bind_some,SB _ (show r.legs.length≤1000 by omega)]
  by_cases a1:r.buses.length>4
  · have a1':decide (((r.buses.length:Nat):Int)>4)=true:=by simp; omega
    simp only [a1',a1,cond_true,Option.bind_some,true_or,if_true]
  have a1':decide (((r.buses.length:Nat):Int)>4)=false:=by simp; omega
  by_cases a2:r.spares.length>2
  · have a2':decide (((r.spares.length:Nat):Int)>2)=true:=by simp; omega
    simp only [a1',a2',a2,cond_true,cond_false,Option.bind_some,or_true,if_true]
  have a2':decide (((r.spares.length:Nat):Int)>2)=false:=by simp; omega
  simp only [a1',a2',cond_false,Option.bind_some,a1,a2,or_self,if_false]
  unfold On
  by_cases b1 : ¬ (r.legs.length % 2=1)
  · have:r.legs.length % 2=0:=by omega
    simp [this]
  replace b1:=Decidable.not_not.1 b1
  have b1':(((r.legs.length % 2:Nat):Int) == 0)=false:=by rw [b1]; rfl
  by_cases b2 : ¬ (r.legs.length≤7)
  · have b2':decide ((((r.legs.length+1) / 2:Nat):Int)>4)=true:=by simp; omega
    simp only [b1',b2',b2,and_false,decide_false,Bool.false_and,cond_false,cond_true,Option.bind_some]
    rfl
  replace b2:=Decidable.not_not.1 b2
  have b2':decide ((((r.legs.length+1) / 2:Nat):Int)>4)=false:=by simp; omega
  simp only [b1',b2',cond_false,b1,b2,and_self,decide_true,Bool.true_and]
  cases r.legs.all (fun x=>DO x 300)
  · simp
  cases DO r.turn 300
  · simp
  cases r.buses.all (Kq r)
  · simp
  cases r.spares.all (Gt r)
  · simp
  simp only [Bool.not_true,cond_false,Bool.true_and,Bool.and_true,Option.bind_some]
  by_cases b3 : ¬ (1≤r.unit∧r.unit≤30)
  · simp [b3]
  replace b3:=Decidable.not_not.1 b3
  by_cases b4 : ¬ (0≤r.gap∧r.gap≤2000)
  · simp [b3,b4]
  replace b4:=Decidable.not_not.1 b4
  simp only [b3,b4,and_self,decide_true,Bool.not_true,cond_false,Option.bind_some,Bool.true_and]
  by_cases b5 : ¬ (0≤r.fr∧r.fr≤2000)
  · have : ¬ (0≤r.fr∧r.fr≤r.to_∧r.to_≤2000):=fun h=>b5 ⟨h.1,by omega⟩
    simp [b5,this]
  replace b5:=Decidable.not_not.1 b5
  by_cases b6 : ¬ (0≤r.to_∧r.to_≤2000)
  · have : ¬ (0≤r.fr∧r.fr≤r.to_∧r.to_≤2000):=fun h=>b6 ⟨by omega,h.2.2⟩
    simp [b5,b6]; omega
  replace b6:=Decidable.not_not.1 b6
  simp only [b5,b6,and_self,decide_true,Bool.not_true,cond_false,Option.bind_some]
  by_cases b7:r.fr>r.to_
  · have : ¬ (0≤r.fr∧r.fr≤r.to_∧r.to_≤2000):=fun h=>by omega
    have b7':decide (r.fr>r.to_)=true:=by simp; omega
    simp only [b7',cond_true]
    simp; omega
  · have b7':decide (r.fr>r.to_)=false:=by simp; omega
    simp only [b7',cond_false]
    simp; omega
structure BU (r:Af):Prop where
  nb:r.buses.length≤4
  ns:r.spares.length≤2
  odd:r.legs.length % 2=1
  nl:r.legs.length≤7
  turn:0≤r.turn.lo∧r.turn.lo≤r.turn.hi∧r.turn.hi≤300
  unit:1≤r.unit∧r.unit≤30
  gap:0≤r.gap∧r.gap≤2000
  looked:0≤r.fr∧r.fr≤r.to_∧r.to_≤2000
  legs:∀ x∈r.legs,0≤x.lo∧x.lo≤x.hi∧x.hi≤300
  buses:∀ b∈r.buses,0≤b.stop∧b.stop≤(r.legs.length:Int)∧0≤b.tm.lo∧b.tm.lo≤b.tm.hi∧b.tm.hi≤2000
  spares:∀ s∈r.spares,0≤s.stop∧s.stop≤(r.legs.length:Int)∧0≤s.tm∧s.tm≤2000
theorem My {r:Af} (h:CB r=0):BU r:=by
  unfold CB at h
  split at h
  · cases h
  rename_i h1
  split at h
  · rename_i h2
    simp only [On,DO,Bool.and_eq_true,decide_eq_true_eq,List.all_eq_true] at h2
    obtain⟨⟨⟨⟨⟨⟨⟨q1,q2⟩,q3⟩,q4⟩,q5⟩,q6⟩,q7⟩,q8⟩:=h2
    refine⟨by omega,by omega,q1.1,q1.2,q2,q3,q4,q5,q6,fun b hb=>?_,fun s hs=>?_⟩
    · have:=q7 b hb
      simp only [Kq,DO,Bool.and_eq_true,decide_eq_true_eq] at this
      exact⟨this.1.1,this.1.2,this.2⟩
    · have:=q8 s hs
      simp only [Gt,Bool.and_eq_true,decide_eq_true_eq] at this
      exact⟨this.1.1,this.1.2,this.2⟩
  · cases h
end Go.Proofs.Ytokchpjijlebiaa
namespace Go.Proofs.Ytokchpjijlebiaa
open Go Go.RowKit
def I1 (r:Af) (a:Ao) (i:Nat):Bool:=decide (0≤a.holds[i]!∧a.holds[i]!≤2) && (decide (a.turns[i]! = -1) || decide ((r.buses[i]!).stop≤a.turns[i]!∧a.turns[i]!≤(((r.legs.length+1) / 2:Nat):Int)-2))
def G2 (r:Af) (a:Ao):Bool:=decide (a.holds.length=r.buses.length∧a.turns.length=r.buses.length∧a.spares.length=r.spares.length) && (List.range r.buses.length).all (I1 r a)
theorem J7 (n:Nat) (r:Af) (h:r.legs.length≤20):F9 n r=some ((((r.legs.length+1) / 2:Nat):Int)):=by
  unfold F9
  rw [GF (x:=(r.legs.length:Int)+1) (by omega) (by omega),show((r.legs.length:Int)+1)=((r.legs.length+1:Nat):Int) by omega,show Int.tdiv ((r.legs.length+1:Nat):Int) 2=(((r.legs.length+1) / 2:Nat):Int) from rfl,GF (by omega) (by omega)]
theorem Rx (n:Nat) (r:Af) (b:CG) (t:Int) (h:r.legs.length≤20):Ci n r b t=some (decide (t=-1) || decide (b.stop≤t∧t≤(((r.legs.length+1) / 2:Nat):Int)-2)):=by
  unfold Ci
  rw [N9 n r h]
  simp only [Option.bind_some,Gw]
  rw [GF (by omega) (by omega)]
  by_cases ht:t=-1
  · simp [ht]
  · rw [beq_eq_false_iff_ne.2 ht]
    simp [ht]
theorem J8 (r:Af) (a:Ao) (hl:r.legs.length≤20) (hb:r.buses.length≤20) (h1:a.holds.length=r.buses.length) (h2:a.turns.length=r.buses.length):∀ (n i:Nat),r.buses.length<n+i→i≤r.buses.length→Cy n r a (i:Int)=some (if ((List.range r.buses.length).drop i).all (I1 r a) then Ex.go () else Ex.ret false)
  | 0,i,h,hi=>by omega
  | n+1,i,h,hi=>by
    rw [Cy,BN]
    by_cases hx:i<r.buses.length
    · have q1:i<a.holds.length:=by omega
      have q2:i<a.turns.length:=by omega
      have q6:i<(List.range r.buses.length).length:=by simpa using hx
      simp only [hx,decide_true,cond_true,AI _ _ hx,AI _ _ q1,AI _ _ q2,Option.bind_some,DL,J7 n r hl]
      rw [AT q6,List.all_cons,List.getElem_range]
      have IH:=J8 r a hl hb h1 h2 n (i+1) (by omega) (by omega)
      rw [GF (x:=(((r.legs.length+1) / 2:Nat):Int)-2) (by omega) (by omega),De i (by omega),IH]
      unfold I1
      rw [B6 _ _ hx,B6 _ _ q1,B6 _ _ q2]
      by_cases b1:0≤a.holds[i]∧a.holds[i]≤2
      · simp only [b1,and_self,decide_true,Bool.not_true,cond_false,Bool.true_and]
        by_cases b2:a.turns[i]=-1
        · simp [b2]
        · have:(a.turns[i] != -1)=true:=by simpa using b2
          simp only [this,cond_true,b2,decide_false,Bool.false_or]
          by_cases b3:(r.buses[i]).stop≤a.turns[i]∧a.turns[i]≤(((r.legs.length+1) / 2:Nat):Int)-2
          · simp only [b3,and_self,decide_true,Bool.not_true,cond_false,Bool.true_and]
          · simp only [b3,decide_false,Bool.not_false,cond_true,Bool.false_and]
            rfl
      · simp only [b1,decide_false,Bool.not_false,cond_true,Bool.false_and]
        rfl
    · have:i=r.buses.length:=by omega
      have hd:(List.range r.buses.length).drop r.buses.length=[]:=List.drop_eq_nil_of_le (by simp)
      simp [this,hd]
theorem Mz (r:Af) (a:Ao) (hl:r.legs.length≤20) (hb:r.buses.length≤20) (h1:a.holds.length=r.buses.length) (h2:a.turns.length=r.buses.length):∀ (n i:Nat),r.buses.length<n+i→i≤r.buses.length→B2 n r a (i:Int)=some (if ((List.range r.buses.length).drop i).all (I1 r a) then Ex.go () else Ex.ret 2)
  | 0,i,h,hi=>by omega
  | n+1,i,h,hi=>by
    rw [B2,BN]
    by_cases hx:i<r.buses.length
    · have q1:i<a.holds.length:=by omega
      have q2:i<a.turns.length:=by omega
      have q6:i<(List.range r.buses.length).length:=by simpa using hx
      simp only [hx,decide_true,cond_true,AI _ _ hx,AI _ _ q1,AI _ _ q2,Option.bind_some,Gw,Rx n r _ _ hl]
      rw [AT q6,List.all_cons,List.getElem_range]
      have IH:=Mz r a hl hb h1 h2 n (i+1) (by omega) (by omega)
      rw [De i (by omega),IH]
      unfold I1
      rw [B6 _ _ hx,B6 _ _ q1,B6 _ _ q2]
      cases decide (0≤a.holds[i]∧a.holds[i]≤2) with
      | false=>rfl
      | true =>
        simp only [Bool.not_true,cond_false,Bool.true_and]
        cases (decide (a.turns[i]=-1) || decide ((r.buses[i]).stop≤a.turns[i]∧a.turns[i]≤(((r.legs.length+1) / 2:Nat):Int)-2)) with
        | false=>rfl
        | true=>rfl
    · have:i=r.buses.length:=by omega
      have hd:(List.range r.buses.length).drop r.buses.length=[]:=List.drop_eq_nil_of_le (by simp)
      simp [this,hd]
theorem M0 (n:Nat) (r:Af) (a:Ao) (hn:50≤n) (hl:r.legs.length≤20) (hb:r.buses.length≤20):FW n r a=some (G2 r a):=by
  unfold FW G2
  by_cases h1:a.holds.length=r.buses.length
  · by_cases h2:a.turns.length=r.buses.length
    · by_cases h3:a.spares.length=r.spares.length
      · have e1:=J8 r a hl hb h1 h2 n 0 (by omega) (by omega)
        simp only [Int.natCast_zero,List.drop_zero] at e1
        simp only [h1,h2,h3,bne_self_eq_false,cond_false,Option.bind_some,e1,and_self,decide_true,Bool.true_and]
        cases (List.range r.buses.length).all (I1 r a) <;> rfl
      · have:(((a.spares.length:Nat):Int) != ((r.spares.length:Nat):Int))=true:=by simp; omega
        simp only [h1,h2,h3,this,bne_self_eq_false,cond_false,cond_true,Option.bind_some,and_false,decide_false,Bool.false_and]
    · have:(((a.turns.length:Nat):Int) != ((r.buses.length:Nat):Int))=true:=by simp; omega
      simp only [h1,h2,this,bne_self_eq_false,cond_false,cond_true,Option.bind_some,false_and,and_false,decide_false,Bool.false_and]
  · have:(((a.holds.length:Nat):Int) != ((r.buses.length:Nat):Int))=true:=by simp; omega
    simp only [h1,this,cond_true,Option.bind_some,false_and,decide_false,Bool.false_and]
theorem Ot (n:Nat) (r:Af) (a:Ao) (hn:50≤n) (hl:r.legs.length≤20) (hb:r.buses.length≤20) (hs:r.spares.length≤20):Ct n r a=some (if CB r≠0 then CB r else if G2 r a then 0 else 2):=by
  unfold Ct G2
  rw [Rw n r hn hl hb hs]
  by_cases h0 : ¬ (CB r=0)
  · have:(CB r != 0)=true:=by simpa using h0
    simp [this,h0]
  replace h0:=Decidable.not_not.1 h0
  simp only [h0,bne_self_eq_false,cond_false,Option.bind_some,ne_eq,not_true_eq_false,if_false]
  by_cases h1:a.holds.length=r.buses.length
  · by_cases h2:a.turns.length=r.buses.length
    · by_cases h3:a.spares.length=r.spares.length
      · have e1:=Mz r a hl hb h1 h2 n 0 (by omega) (by omega)
        simp only [Int.natCast_zero,List.drop_zero] at e1
        simp only [h1,h2,h3,bne_self_eq_false,cond_false,Option.bind_some,e1,and_self,decide_true,Bool.true_and]
        cases (List.range r.buses.length).all (I1 r a) <;> rfl
      · have:(((a.spares.length:Nat):Int) != ((r.spares.length:Nat):Int))=true:=by simp; omega
        simp only [h1,h2,h3,this,bne_self_eq_false,cond_false,cond_true,Option.bind_some,and_false,decide_false,Bool.false_and]
        rfl
    · have:(((a.turns.length:Nat):Int) != ((r.buses.length:Nat):Int))=true:=by simp; omega
      simp only [h1,h2,this,bne_self_eq_false,cond_false,cond_true,Option.bind_some,false_and,and_false,decide_false,Bool.false_and]
      rfl
  · have:(((a.holds.length:Nat):Int) != ((r.buses.length:Nat):Int))=true:=by simp; omega
    simp only [h1,this,cond_true,Option.bind_some,false_and,decide_false,Bool.false_and]
    rfl
def BI (m to_:Int) (l:List Rg):Int:=l.foldl (fun e p=>if p.lo>m then min e p.hi else e) to_
def CV (fr to_:Int) (l:List Rg):List Int:=fr::(l.filter fun p=>decide (fr≤p.lo) && decide (p.lo≤to_)).map Rg.lo
def WR (fr to_:Int) (l:List Rg):Int:=(CV fr to_ l).foldl (fun b m=>max b (BI m to_ l-m)) 0
theorem GL (m:Int):∀ (l:List Rg)(to_:Int),(∀ p∈l,p.lo≤p.hi)→m≤to_→m≤BI m to_ l∧BI m to_ l≤to_
  | [],to_,_,h=>⟨h,Int.le_refl _⟩
  | p::r,to_,hp,h=>by
    have h1:=hp p (by simp)
    show m≤BI m (if p.lo>m then min to_ p.hi else to_) r∧BI m (if p.lo>m then min to_ p.hi else to_) r≤to_
    split
    · have:=GL m r (min to_ p.hi) (fun q hq=>hp q (List.mem_cons_of_mem _ hq)) (by omega)
      omega
    · exact GL m r to_ (fun q hq=>hp q (List.mem_cons_of_mem _ hq)) h
theorem JQ (m:Int):∀ (l:List (Int×Rg))(to_:Int),A0 m to_ l=BI m to_ (l.map Prod.snd)
  | [],_=>rfl
  | p::r,to_=>JQ m r _
theorem I2 {α β:Type} {f g:β→α→β}:∀ (l:List α)(b:β),(∀ b x,x∈l→f b x=g b x)→l.foldl f b=l.foldl g b
  | [],_,_=>rfl
  | x::r,b,h=>by
    rw [List.foldl_cons,List.foldl_cons,h b x (by simp)]
    exact I2 r _ fun b y hy=>h b y (List.mem_cons_of_mem _ hy)
theorem FQ {fr to_ m:Int} {l:List Rg} (h:fr≤to_) (hm:m∈CV fr to_ l):fr≤m∧m≤to_:=by
  rcases List.mem_cons.1 hm with rfl | hm
  · exact⟨Int.le_refl _,h⟩
  · obtain⟨p,hp,rfl⟩:=List.mem_map.1 hm
    have:=(List.mem_filter.1 hp).2
    simpa using this
theorem Rc (n:Nat) (r:Af) (l:List (Int×Rg)) (hn:60≤n) (hl:l.length≤20) (hp:∀ p∈l.map Prod.snd,p.lo≤p.hi) (h0:0≤r.fr) (h1:r.fr≤r.to_) (h2:r.to_≤2000):BC n r (DQ.mk l)=some (WR r.fr r.to_ (l.map Prod.snd)):=by
  unfold BC WR
  rw [if_pos ⟨by simp only; omega,by simp only; omega⟩]
  have hM:Bp r l=CV r.fr r.to_ (l.map Prod.snd):=by
    unfold Bp CV
    rw [List.filter_map,List.map_map]
    rfl
  simp only []
  rw [hM]
  congr 1
  refine I2 _ _ fun b m hm=>?_
  have q:=FQ h1 hm
  have:=GL m (l.map Prod.snd) r.to_ hp q.2
  rw [JQ,GF (by omega) (by omega)]
theorem LC (w:Bm) (sp:List (List (Int×Rg))) (hs:sp.length≤50) (hl:∀ l∈sp,l.length≤20∧∀ p∈l.map Prod.snd,p.lo≤p.hi) (h0:0≤w.route.fr) (h1:w.route.fr≤w.route.to_) (h2:w.route.to_≤2000):∀ (n i:Nat)(acc:List Int),sp.length+60<n+i→i≤sp.length→acc.length=i →
    Bj n w (sp.map DQ.mk) acc (i:Int)=some (acc++(sp.drop i).map fun l=>WR w.route.fr w.route.to_ (l.map Prod.snd))
  | 0,i,acc,h,hi,_=>by omega
  | n+1,i,acc,h,hi,ha=>by
    rw [Bj,BN,List.length_map]
    by_cases hx:i<sp.length
    · simp only [hx,decide_true,cond_true]
      rw [AI _ i (by simpa using hx)]
      simp only [Option.bind_some,List.getElem_map]
      have:=hl _ (List.getElem_mem hx)
      rw [Rc n w.route _ (by omega) this.1 this.2 h0 h1 h2]
      simp only [Option.bind_some]
      rw [DH _ _ (by simp; omega)]
      simp only [Option.bind_some]
      rw [De i (by omega),LC w sp hs hl h0 h1 h2 n (i+1) _ (by omega) (by omega) (by simp; omega),AT hx,List.append_assoc]
      rfl
    · have:i=sp.length:=by omega
      simp [this]
end Go.Proofs.Ytokchpjijlebiaa
namespace Go.Proofs.Ytokchpjijlebiaa
open Go Go.RowKit
structure CR (r:Af) (a:Ao):Prop where
  holds:a.holds.length=r.buses.length
  turns:a.turns.length=r.buses.length
  spares:a.spares.length=r.spares.length
  hold:∀ i,i<r.buses.length→0≤a.holds[i]!∧a.holds[i]!≤2
  turn:∀ i,i<r.buses.length→a.turns[i]! = -1∨(r.buses[i]!).stop≤a.turns[i]!∧a.turns[i]!≤(((r.legs.length+1) / 2:Nat):Int)-2
theorem Li {r:Af} {a:Ao} (h:G2 r a=true):CR r a:=by
  simp only [G2,Bool.and_eq_true,decide_eq_true_eq,List.all_eq_true,List.mem_range] at h
  obtain⟨⟨h1,h2,h3⟩,h4⟩:=h
  refine⟨h1,h2,h3,fun i hi=>?_,fun i hi=>?_⟩ <;>
  · have:=h4 i hi
    simp only [I1,Bool.and_eq_true,Bool.or_eq_true,decide_eq_true_eq] at this
    first | exact this.1 | exact this.2
structure Dv (f:Rg→Int):Prop where
  le:∀ x:Rg,x.lo≤x.hi→x.lo≤f x∧f x≤x.hi
theorem Dv.low:Dv Rg.lo:=⟨fun _ h=>⟨Int.le_refl _,h⟩⟩
theorem Dv.high:Dv Rg.hi:=⟨fun _ h=>⟨h,Int.le_refl _⟩⟩
def D2 (r:Af) (a:Ao) (f:Rg→Int) (i:Nat):Bd×A9:=(⟨(r.buses[i]!).stop,f (r.buses[i]!).tm+a.holds[i]! * r.unit,a.turns[i]!⟩,⟨r.legs.map f,f r.turn⟩)
def GG (r:Af) (f:Rg→Int) (j:Nat):Bd×A9:=(⟨(r.spares[j]!).stop,(r.spares[j]!).tm,-1⟩,⟨r.legs.map f,0⟩)
theorem Pe {α β:Type} [Inhabited α] [Inhabited β] (g:α→β) (l:List α) (i:Nat) (h:i<l.length):(l.map g)[i]! = g l[i]!:=by
  rw [B6 _ _ (by simpa using h),B6 _ _ h,List.getElem_map]
theorem M1 {β:Type} [Inhabited β] (x:β) (n i:Nat) (h:i<n):(List.replicate n x)[i]! = x:=by
  rw [B6 _ _ (by simpa using h),List.getElem_replicate]
theorem Ht {α β:Type} {f g:α→Option β}:∀ {l:List α},(∀ x∈l,f x=g x)→l.filterMap f=l.filterMap g
  | [],_=>rfl
  | x::r,h=>by
    rw [List.filterMap_cons,List.filterMap_cons,h x (by simp),Ht fun y hy=>h y (List.mem_cons_of_mem _ hy)]
theorem F7 (r:Af) (a:Ao) (f:Rg→Int):Cx r a (Cw r f)=(List.range r.buses.length).map (D2 r a f)++(List.range r.spares.length).filterMap fun j=>if a.spares[j]! then some (GG r f j) else none:=by
  unfold Cx
  congr 1
  · refine List.map_congr_left fun i hi=>?_
    rw [List.mem_range] at hi
    unfold BT D2 Cw
    simp only []
    rw [Pe _ _ _ hi,Pe _ _ _ hi,M1 _ _ _ (by omega)]
  · refine Ht fun j hj=>?_
    rw [List.mem_range] at hj
    unfold G0 GG Cw
    simp only []
    rw [M1 _ _ _ (by omega)]
theorem M2 {r:Af} {a:Ao} {f:Rg→Int} (hf:Dv f) (V:BU r) (A:CR r a):J5 r a (Cw r f):=by
  refine⟨by have:=V.nb; omega,by have:=V.ns; omega,A.holds,A.turns,A.spares,by simp [Cw],by simp [Cw],by simp [Cw],fun x hx=>?_,V.unit,fun x hx=>?_⟩
  · obtain⟨i,hi,rfl⟩:=List.mem_iff_getElem.1 hx
    have:=A.hold i (by rw [← A.holds]; exact hi)
    rwa [B6 _ _ hi] at this
  · simp only [Cw] at hx
    obtain⟨b,hb,rfl⟩:=List.mem_map.1 hx
    have:=V.buses b hb
    have:=hf.le b.tm (by omega)
    omega
theorem M3 {r:Af} {f:Rg→Int} (hf:Dv f) (V:BU r):(∀ d∈r.legs.map f,0≤d∧d≤300)∧0≤f r.turn∧f r.turn≤300:=by
  refine⟨fun d hd=>?_,?_⟩
  · obtain⟨x,hx,rfl⟩:=List.mem_map.1 hd
    have:=V.legs x hx
    have:=hf.le x (by omega)
    omega
  · have:=V.turn
    have:=hf.le r.turn (by omega)
    omega
theorem Kr {r:Af} {a:Ao} {f:Rg→Int} (hf:Dv f) (V:BU r) (A:CR r a) (i:Nat) (hi:i<r.buses.length):E9 r (D2 r a f i):=by
  have hb:=V.buses _ (List.getElem_mem hi)
  have h1:=A.hold i hi
  have h2:=A.turn i hi
  have h3:=Jr h1.1 h1.2 V.unit.1 V.unit.2
  obtain⟨s1,s2,s3⟩:=M3 hf V
  have:=V.nl
  rw [B6 _ _ hi] at h2
  have h4:=hf.le (r.buses[i]).tm (by omega)
  refine⟨⟨s2,s3,by simp [D2]; omega,s1⟩,by simp [D2],?_,?_,?_,?_,?_⟩ <;> simp only [D2,B6 _ _ hi] <;> omega
theorem M4 {r:Af} {f:Rg→Int} (hf:Dv f) (V:BU r) (j:Nat) (hj:j<r.spares.length):E9 r (GG r f j):=by
  have hb:=V.spares _ (List.getElem_mem hj)
  obtain⟨s1,_,_⟩:=M3 hf V
  have:=V.nl
  refine⟨⟨Int.le_refl _,by simp [GG],by simp [GG]; omega,s1⟩,by simp [GG],?_,?_,?_,?_,?_⟩ <;> simp only [GG,B6 _ _ hj] <;> omega
theorem Ks {r:Af} {a:Ao} {f:Rg→Int} (hf:Dv f) (V:BU r) (A:CR r a):∀ p∈Cx r a (Cw r f),E9 r p:=by
  rw [F7]
  intro p hp
  rcases List.mem_append.1 hp with hp | hp
  · obtain⟨i,hi,rfl⟩:=List.mem_map.1 hp
    exact Kr hf V A i (by simpa using hi)
  · obtain⟨j,hj,h⟩:=List.mem_filterMap.1 hp
    split at h
    · cases h; exact M4 hf V j (by simpa using hj)
    · cases h
def CQ (r:Af) (a:Ao):List ((Bd×A9)×(Bd×A9)):=(List.range r.buses.length).map (fun i=>(D2 r a Rg.lo i,D2 r a Rg.hi i))++(List.range r.spares.length).filterMap fun j=>if a.spares[j]! then some (GG r Rg.lo j,GG r Rg.hi j) else none
theorem Hb {α β γ:Type} (c:α→Bool) (f:α→β) (g:α→γ):∀ l:List α,(l.filterMap fun j=>if c j then some (f j) else none).zip (l.filterMap fun j=>if c j then some (g j) else none)=l.filterMap fun j=>if c j then some (f j,g j) else none
  | []=>rfl
  | x::r=>by
    simp only [List.filterMap_cons]
    cases c x with
    | true=>simp only [if_true,List.zip_cons_cons,Hb c f g r]
    | false=>simp only [Bool.false_eq_true,if_false,Hb c f g r]
theorem Hc {α β γ:Type} (c:α→Bool) (f:α→β) (g:α→γ):∀ l:List α,(l.filterMap fun j=>if c j then some (f j) else none).length=(l.filterMap fun j=>if c j then some (g j) else none).length
  | []=>rfl
  | x::r=>by
    simp only [List.filterMap_cons]
    cases c x with
    | true=>simp only [if_true,List.length_cons,Hc c f g r]
    | false=>simp only [Bool.false_eq_true,if_false,Hc c f g r]
theorem Lj (r:Af) (a:Ao):(Cx r a (Cw r Rg.lo)).zip (Cx r a (Cw r Rg.hi))=CQ r a:=by
  rw [F7,F7,List.zip_append (by simp),CQ,Hb,List.zip_map']
theorem Rd (r:Af) (a:Ao):(Cx r a (Cw r Rg.lo)).length=(Cx r a (Cw r Rg.hi)).length:=by
  rw [F7,F7,List.length_append,List.length_append,Hc _ (GG r Rg.lo) (GG r Rg.hi)]
  simp
theorem HK (r:Af) (a:Ao) (f:Rg→Int):(Cx r a (Cw r f)).length≤r.buses.length+r.spares.length:=by
  rw [F7,List.length_append,List.length_map,List.length_range]
  have:=List.length_filterMap_le (fun j=>if a.spares[j]! then some (GG r f j) else none) (List.range r.spares.length)
  rw [List.length_range] at this
  omega
theorem G3 {st turned turn:Int} {legs:List Int} (ht:2*turned+1<st):∀ (n m:Nat)(tm s:Int),st-s<n→st-s<m→Ce st turned turn legs n tm s=Ce st turned turn legs m tm s
  | 0,m,tm,s,h1,h2=>by
    cases m with
    | zero=>rfl
    | succ m=>rw [Ce,Ce,if_neg (by omega)]
  | n+1,0,tm,s,h1,h2=>by rw [Ce,Ce,if_neg (by omega)]
  | n+1,m+1,tm,s,h1,h2=>by
    rw [Ce,Ce]
    by_cases hc:0≤s∧s<st
    · simp only [hc,and_self,if_true]
      congr 1
      by_cases hs:s=turned
      · simp only [hs,if_true]
        exact G3 ht n m _ _ (by omega) (by omega)
      · simp only [hs,if_false]
        cases legs[s.toNat]? with
        | none=>rfl
        | some d=>exact G3 ht n m _ _ (by omega) (by omega)
    · simp only [hc,if_false]
theorem Pf {r:Af} {p:(Bd×A9)×(Bd×A9)} (hl:r.legs.length≤20) (h1:E9 r p.1) (h2:E9 r p.2) {n:Nat} (hn:30≤n) (k:Int):C6 ((r.legs.length:Int)+1) n p k=C6 ((r.legs.length:Int)+1) 40 p k:=by
  have a1:=h1.s0
  have a2:=h2.s0
  unfold C6
  rw [G3 h1.t n 40 _ _ (by omega) (by omega),G3 h2.t n 40 _ _ (by omega) (by omega)]
theorem Lk {r:Af} {a:Ao} (V:BU r) {p:(Bd×A9)×(Bd×A9)} (hp:p∈CQ r a) (n:Nat) (k:Int) (A:CR r a) :
    (BJ (Ce ((r.legs.length:Int)+1) p.1.1.turned p.1.2.turn p.1.2.legs n p.1.1.tm p.1.1.stop) k=none∧BJ (Ce ((r.legs.length:Int)+1) p.2.1.turned p.2.2.turn p.2.2.legs n p.2.1.tm p.2.1.stop) k=none) ∨
    ∃ x y,BJ (Ce ((r.legs.length:Int)+1) p.1.1.turned p.1.2.turn p.1.2.legs n p.1.1.tm p.1.1.stop) k=some x∧BJ (Ce ((r.legs.length:Int)+1) p.2.1.turned p.2.2.turn p.2.2.legs n p.2.1.tm p.2.1.stop) k=some y∧x≤y:=by
  have hle:∀ (k:Nat)(d d':Int),(r.legs.map Rg.lo)[k]? = some d→(r.legs.map Rg.hi)[k]? = some d'→d≤d':=fun k d d' h1 h2=>by
    rw [List.getElem?_map] at h1 h2
    obtain⟨x,hx,rfl⟩:=Option.map_eq_some_iff.1 h1
    rw [hx] at h2
    cases h2
    have:=V.legs x (List.mem_of_getElem? hx)
    omega
  unfold CQ at hp
  rcases List.mem_append.1 hp with hp | hp
  · obtain⟨i,hi,rfl⟩:=List.mem_map.1 hp
    have hi:i<r.buses.length:=by simpa using hi
    have ok:=Kr Dv.low V A i hi
    have hb:=V.buses _ (List.getElem_mem hi)
    have:=V.turn
    exact Hr (turn:=r.turn.lo) (turn':=r.turn.hi) ok.t (by simp) hle (by omega) n _ _ _ k (by simp only [D2,B6 _ _ hi]; omega)
  · obtain⟨j,hj,h⟩:=List.mem_filterMap.1 hp
    split at h
    · cases h
      have ok:=M4 Dv.low V j (by simpa using hj)
      exact Hr ok.t (by simp) hle (Int.le_refl _) n _ _ _ k (Int.le_refl _)
    · cases h
def AA (r:Af) (a:Ao) (k:Nat):List Rg:=(CQ r a).filterMap fun p=>C6 ((r.legs.length:Int)+1) 40 p k
theorem DM (st:Int) (n:Nat) (k:Int):∀ (i:Nat)(l:List ((Bd×A9)×(Bd×A9))),(AX st n k i l).map Prod.snd=l.filterMap fun p=>C6 st n p k
  | _,[]=>rfl
  | i,p::r=>by
    rw [AX,List.filterMap_cons]
    cases C6 st n p k with
    | none=>exact DM st n k (i+1) r
    | some x=>simp only [List.map_cons,DM st n k (i+1) r]
theorem NA {r:Af} {a:Ao} (V:BU r) (A:CR r a) (k:Nat):∀ x∈AA r a k,x.lo≤x.hi:=fun x hx=>by
  obtain⟨p,hp,h⟩:=List.mem_filterMap.1 hx
  unfold C6 at h
  rcases Lk V hp 40 k A with⟨h1,h2⟩ | ⟨u,v,h1,h2,h3⟩
  · rw [h1,h2] at h; cases h
  · rw [h1,h2] at h; cases h; exact h3
theorem Kt {α:Type}:∀ l:List α,List.mapM id (l.map some)=some l
  | []=>rfl
  | x::r=>by rw [List.map_cons,List.mapM_cons,Kt r]; rfl
theorem LD (st:Nat) (x18:List (Option (List (Int×Rg)))) (h18:x18.length=st) (hb:st≤50):∀ (n i:Nat)(x:List (Option (List (Int×Rg)))),st<n+i→i≤st→x.length=st→(∀ k,k<i→x[k]? = some (some []))→Bh n x18 x (i:Int)=some (List.replicate st (some []))
  | 0,i,x,h,hi,_,_=>by omega
  | n+1,i,x,h,hi,hx,hk=>by
    rw [Bh,BN,h18]
    by_cases hi':i<st
    · simp only [hi',decide_true,cond_true]
      rw [AI _ i (by omega)]
      simp only [Option.bind_some]
      rw [Ms _ i _ (by omega)]
      simp only [Option.bind_some]
      rw [De i (by omega),LD st x18 h18 hb n (i+1) _ (by omega) (by omega) (by simpa using hx) fun k hk'=>?_]
      rw [List.getElem?_set]
      by_cases hik:i=k
      · subst hik; simp; omega
      · simp only [hik,if_false]; exact hk k (by omega)
    · simp only [hi',decide_false,cond_false,Option.some.injEq]
      apply List.ext_getElem?
      intro k
      by_cases hks:k<st
      · rw [hk k (by omega),List.getElem?_replicate]; simp [hks]
      · rw [List.getElem?_eq_none (by omega),List.getElem?_eq_none (by simp; omega)]
theorem Pg (n:Nat) (r:Af) (a:Ao) (V:BU r) (A:CR r a) (hn:80≤n) (hn2:n≤900):BD n ⟨r,a⟩=some ((List.range (r.legs.length+1)).map fun(k:Nat)=>DQ.mk (AX ((r.legs.length:Int)+1) 40 k 0 (CQ r a))):=by
  have:=V.nl
  have:=V.nb
  have:=V.ns
  unfold BD
  simp only []
  rw [E0 n r (by omega),Option.bind_some]
  have eM:mk ((r.legs.length:Int)+1) (none:Option (List (Int×Rg)))=some (List.replicate (r.legs.length+1) none):=by
    rw [show((r.legs.length:Int)+1)=((r.legs.length+1:Nat):Int) by omega]; exact Ts _ _ (by omega)
  rw [eM,Option.bind_some]
  have e0:=LD (r.legs.length+1) (List.replicate (r.legs.length+1) (none:Option (List (Int×Rg)))) (by simp) (by omega) n 0 (List.replicate (r.legs.length+1) none) (by omega) (by omega) (by simp) (fun k hk=>by omega)
  simp only [Int.natCast_zero] at e0
  rw [e0,Mi n r Rg.lo (fun y0=>Al n y0) (fun x=>rfl) (by omega) (by omega) (by omega) (by omega),Mi n r Rg.hi (fun y0=>As n y0) (fun x=>rfl) (by omega) (by omega) (by omega) (by omega),Option.bind_some,Option.bind_some]
  rw [Pa n r a _ (M2 Dv.low V A) (by omega),Option.bind_some,Option.bind_some,Pa n r a _ (M2 Dv.high V A) (by omega),Option.bind_some]
  have e2:=L8 ⟨r,a⟩ (Cx r a (Cw r Rg.lo)) (Cx r a (Cw r Rg.hi)) (by simp only; omega) (Rd r a) (Ks Dv.low V A) (Ks Dv.high V A) 60 (by omega) (by omega) (by have:=HK r a Rg.lo; omega)
    (fun m hm1 hm2 p hp=>by
      have hz:=hp
      rw [Lj] at hz
      have hp1:p.1∈Cx r a (Cw r Rg.lo):=(List.of_mem_zip (show(p.1,p.2)∈_ from hp)).1
      have hp2:p.2∈Cx r a (Cw r Rg.hi):=(List.of_mem_zip (show(p.1,p.2)∈_ from hp)).2
      refine⟨fun k=>?_,fun k=>Pf (by omega) (Ks Dv.low V A _ hp1) (Ks Dv.high V A _ hp2) hm1 k⟩
      rcases Lk V hz m k A with⟨h1,h2⟩ | ⟨x,y,h1,h2,_⟩
      · simp only; rw [h1,h2]
      · simp only; rw [h1,h2]; simp) n 0 (List.replicate (r.legs.length+1) []) (by have:=HK r a Rg.lo; omega) (by omega) (by omega) (by simp) (fun m hm p hp=>by
        rw [(List.mem_replicate.1 hm).2] at hp; cases hp)
  simp only [Int.natCast_zero,List.map_replicate,List.drop_zero] at e2
  rw [e2,Option.bind_some,Kt,Option.bind_some,List.map_map,Option.some.injEq]
  refine List.map_congr_left fun k hk=>?_
  rw [List.mem_range] at hk
  simp only [Function.comp,Lj,List.getElem?_replicate,hk,if_true,Option.getD_some,List.nil_append]
def B7 (r:Af) (a:Ao):List Int:=(List.range (r.legs.length+1)).map fun k=>WR r.fr r.to_ (AA r a k)
theorem Ry (n:Nat) (r:Af) (a:Ao) (V:BU r) (A:CR r a) (hn:100≤n) (hn2:n≤900):BY n ⟨r,a⟩=some (B7 r a):=by
  have:=V.nl
  have:=V.nb
  have:=V.ns
  have:=V.looked
  unfold BY
  rw [Pg n r a V A (by omega) hn2]
  simp only [Option.bind_some]
  have e:=LC ⟨r,a⟩ ((List.range (r.legs.length+1)).map fun(k:Nat)=>AX ((r.legs.length:Int)+1) 40 k 0 (CQ r a)) (by simp; omega) (fun l hl=>by
    obtain⟨k,_,rfl⟩:=List.mem_map.1 hl
    refine⟨?_,by rw [DM]; exact NA V A k⟩
    have h1:(AX ((r.legs.length:Int)+1) 40 k 0 (CQ r a)).length=((AX ((r.legs.length:Int)+1) 40 k 0 (CQ r a)).map Prod.snd).length:=by simp
    rw [h1,DM]
    refine Nat.le_trans (List.length_filterMap_le _ _) ?_
    rw [← Lj,List.length_zip]
    have:=HK r a Rg.lo
    omega) (by simp only; omega) (by simp only; omega) (by simp only; omega) n 0 [] (by simp; omega) (by omega) rfl
  simp only [Int.natCast_zero,List.nil_append,List.drop_zero,List.map_map] at e
  simp only [Function.comp_def] at e
  rw [e]
  simp only [Option.bind_some,B7,AA,DM]
theorem Rz (n:Nat) (r:Af) (a:Ao) (hF:CB r=0) (hA:G2 r a=true) (hn:100≤n) (hn2:n≤900):CE n r a=some (B7 r a,0):=by
  have V:=My hF
  have:=V.nl
  have:=V.nb
  have:=V.ns
  unfold CE
  rw [Ot n r a (by omega) (by omega) (by omega) (by omega),Ry n r a V (Li hA) hn hn2]
  simp [hF,hA]
end Go.Proofs.Ytokchpjijlebiaa
namespace Go.Proofs.Ytokchpjijlebiaa
open Go Go.RowKit
end Go.Proofs.Ytokchpjijlebiaa
namespace Go.Proofs.Ytokchpjijlebiaa
open Go Go.RowKit
def By.put (x:By) (k:Nat) (v:Int):By:=match k with
  | 0=>⟨v,x.a1,x.a2,x.a3⟩
  | 1=>⟨x.a0,v,x.a2,x.a3⟩
  | 2=>⟨x.a0,x.a1,v,x.a3⟩
  | _=>⟨x.a0,x.a1,x.a2,v⟩
def BA.put (x:BA) (k:Nat) (v:Bool):BA:=match k with
  | 0=>⟨v,x.a1⟩
  | _=>⟨x.a0,v⟩
theorem By.put_put (x:By) (u v:Int):∀ k:Nat,k<4→(x.put k u).put k v=x.put k v
  | 0,_=>rfl
  | 1,_=>rfl
  | 2,_=>rfl
  | 3,_=>rfl
  | k+4,h=>by omega
theorem BA.put_put (x:BA) (u v:Bool):∀ k:Nat,k<2→(x.put k u).put k v=x.put k v
  | 0,_=>rfl
  | 1,_=>rfl
  | k+2,h=>by omega
def SD (nb k:Nat) (v:Int) (p:A7×Cj):A7×Cj :=
  if k<nb then(⟨p.1.holds.put k v,p.1.turns,p.1.spares⟩,⟨p.2.number+min v 1,p.2.sum+v⟩)
  else if k<2*nb then(⟨p.1.holds,p.1.turns.put (k-nb) v,p.1.spares⟩,⟨p.2.number+min (v+1) 1,p.2.sum⟩)
  else(⟨p.1.holds,p.1.turns,p.1.spares.put (k-2*nb) (v == 1)⟩,⟨p.2.number+v,p.2.sum⟩)
section
variable {σ:Type} (see:σ→A7→Cj→Option σ)
structure Qg (c:Cj) (k:Nat):Prop where
  n0:0≤c.number
  n1:c.number≤k
  s0:0≤c.sum
  s1:c.sum≤2*k
theorem Qg.step {nb k:Nat} {v:Int} {p:A7×Cj} (h:Qg p.2 k) (h0:k<nb→0≤v∧v≤2) (h1 : ¬ k<nb→k<2*nb→-1≤v) (h2 : ¬ k<2*nb→0≤v∧v≤1):Qg (SD nb k v p).2 (k+1):=by
  obtain⟨a,b,c,d⟩:=h
  unfold SD
  by_cases c1:k<nb
  · have:=h0 c1
    simp only [c1,if_true]
    constructor <;> simp only <;> omega
  · by_cases c2:k<2*nb
    · have:=h1 c1 c2
      simp only [c1,c2,if_true,if_false]
      constructor <;> simp only <;> omega
    · have:=h2 c2
      simp only [c1,c2,if_false]
      constructor <;> simp only <;> omega
end
end Go.Proofs.Ytokchpjijlebiaa
namespace Go.Proofs.Ytokchpjijlebiaa
open Go Go.RowKit
def Tt (b:Bool):Int:=if b then 1 else 0
def enc (a:Ao):List Int:=a.holds++a.turns++a.spares.map Tt
def Ny (a:Ao):Int:=(a.holds.map fun h=>min h 1).sum+(a.turns.map fun t=>min (t+1) 1).sum+(a.spares.map Tt).sum
def Nz (a:Ao):Int:=a.holds.sum
def Rt:List Int→List Int→Bool
  | x::xs,y::ys=>if x=y then Rt xs ys else decide (x<y)
  | _,_=>false
def FM (a b:Ao):Bool:=if Ny a=Ny b then(if Nz a=Nz b then Rt (enc a) (enc b) else decide (Nz a<Nz b)) else decide (Ny a<Ny b)
theorem JR:∀ x:List Int,Rt x x=false
  | []=>rfl
  | x::xs=>by rw [Rt,if_pos rfl,JR xs]
end Go.Proofs.Ytokchpjijlebiaa
namespace Go.Proofs.Ytokchpjijlebiaa
open Go Go.RowKit
theorem HL {α:Type} (f:α→Int):∀ (l:List α)(b g:Int),l.foldl (fun b m=>max b (f m)) b≤g↔b≤g∧∀ m∈l,f m≤g
  | [],b,g=>by simp
  | m::l,b,g=>by
    rw [List.foldl_cons,HL f l]
    simp only [List.mem_cons,forall_eq_or_imp]
    constructor
    · rintro⟨h1,h2⟩; exact⟨by omega,by omega,h2⟩
    · rintro⟨h1,h2,h3⟩; exact⟨by omega,h3⟩
theorem D3 {m e:Int}:∀ {l:List Rg} {to_:Int},e≤BI m to_ l↔e≤to_∧∀ p∈l,p.lo>m→e≤p.hi
  | [],to_=>by simp [BI]
  | p::r,to_=>by
    show e≤BI m (if p.lo>m then min to_ p.hi else to_) r↔_
    rw [D3]
    simp only [List.mem_cons,forall_eq_or_imp]
    by_cases h:p.lo>m
    · simp only [h,if_true,true_implies]
      constructor
      · rintro⟨h1,h2⟩; exact⟨by omega,by omega,h2⟩
      · rintro⟨h1,h2,h3⟩; exact⟨by omega,h3⟩
    · simp only [h,if_false,false_implies,true_and]
theorem Ph {fr to_ g:Int} {l:List Rg}:WR fr to_ l≤g↔0≤g∧∀ m∈CV fr to_ l,BI m to_ l-m≤g:=HL _ _ _ _
theorem Js (fr to_:Int) (l:List Rg):0≤WR fr to_ l:=(Ph.1 (Int.le_refl _)).1
theorem HM (m to_:Int) (l:List Rg):BI m to_ l≤to_:=(D3.1 (Int.le_refl _)).1
theorem R0 {fr to_:Int} {l:List Rg} (h:fr≤to_):WR fr to_ l≤to_-fr:=Ph.2 ⟨by omega,fun m hm=>by
  have:=FQ h hm
  have:=HM m to_ l
  omega⟩
theorem M5 {fr to_ m:Int} (h0:fr≤m) (h1:m≤to_):∀ l:List Rg,∃ x∈CV fr to_ l,x≤m∧fr≤x∧∀ p∈l,p.lo≤m→p.lo≤x
  | []=>⟨fr,by simp [CV],h0,Int.le_refl _,by simp⟩
  | p::r=>by
    obtain⟨x,hx,h2,h3,h4⟩:=M5 h0 h1 r
    have sub:∀ z∈CV fr to_ r,z∈CV fr to_ (p::r):=fun z hz=>by
      unfold CV at hz ⊢
      rcases List.mem_cons.1 hz with rfl | hz
      · simp
      · obtain⟨q,hq,rfl⟩:=List.mem_map.1 hz
        rw [List.mem_filter] at hq
        exact List.mem_cons_of_mem _ (List.mem_map_of_mem (List.mem_filter.2 ⟨List.mem_cons_of_mem _ hq.1,hq.2⟩))
    by_cases hp:x<p.lo∧p.lo≤m
    · refine⟨p.lo,?_,hp.2,by omega,fun q hq hqm=>?_⟩
      · unfold CV
        refine List.mem_cons_of_mem _ (List.mem_map_of_mem (List.mem_filter.2 ⟨by simp,?_⟩))
        rw [Bool.and_eq_true,decide_eq_true_eq,decide_eq_true_eq]
        omega
      · rcases List.mem_cons.1 hq with rfl | hq
        · exact Int.le_refl _
        · have:=h4 q hq hqm; omega
    · refine⟨x,sub x hx,h2,h3,fun q hq hqm=>?_⟩
      rcases List.mem_cons.1 hq with rfl | hq
      · omega
      · exact h4 q hq hqm
theorem R1 {fr to_ m:Int} {l:List Rg} (h0:fr≤m) (h1:m≤to_):BI m to_ l-m≤WR fr to_ l:=by
  obtain⟨x,hx,h2,h3,h4⟩:=M5 h0 h1 l
  have:=(Ph.1 (Int.le_refl (WR fr to_ l))).2 x hx
  have:BI m to_ l≤BI x to_ l:=D3.2 ⟨HM _ _ _,fun p hp hpx=>by
    rcases Int.lt_or_le m p.lo with h | h
    · exact(D3.1 (Int.le_refl (BI m to_ l))).2 p hp h
    · have:=h4 p hp h; omega⟩
  omega
def Tp (l l':List Rg):Prop:=∀ p∈l,∃ p'∈l',p.lo≤p'.lo∧p'.hi≤p.hi
theorem Tp.sub {l l':List Rg} (h:∀ p∈l,p∈l'):Tp l l':=fun p hp=>⟨p,h p hp,Int.le_refl _,Int.le_refl _⟩
theorem SP {fr to_ fr' to':Int} {l l':List Rg} (h:Tp l l') (h0:fr≤fr') (h1:fr'≤to') (h2:to'≤to_):WR fr' to' l'≤WR fr to_ l:=Ph.2 ⟨Js _ _ _,fun m hm=>by
  have hb:=FQ h1 hm
  have:=R1 (fr:=fr) (to_:=to_) (m:=m) (l:=l) (by omega) (by omega)
  have:BI m to' l'≤BI m to_ l:=D3.2 ⟨Int.le_trans (HM _ _ _) h2,fun p hp hpm=>by
    obtain⟨p',hp',h3,h4⟩:=h p hp
    have:=(D3.1 (Int.le_refl (BI m to' l'))).2 p' hp' (by omega)
    omega⟩
  omega⟩
def maxL:List Int→Int
  | []=>0
  | x::xs=>xs.foldl (fun b x=>max b x) x
def maxW (r:Af) (a:Ao):Int:=maxL (B7 r a)
theorem Ou {l:List Int} {g:Int} (h:l≠[]):maxL l≤g↔∀ w∈l,w≤g:=by
  cases l with
  | nil=>exact absurd rfl h
  | cons x xs =>
    unfold maxL
    rw [HL (fun x=>x)]
    simp
theorem GM (r:Af) (a:Ao):B7 r a≠[]:=by
  unfold B7
  rw [List.range_succ]; simp
theorem Q9 {r:Af} {a:Ao} {g:Int}:maxW r a≤g↔∀ w∈B7 r a,w≤g:=Ou (GM r a)
theorem Me {r:Af} {a:Ao} {w:Int} (h:w∈B7 r a):0≤w:=by
  obtain⟨k,_,rfl⟩:=List.mem_map.1 h
  exact Js _ _ _
theorem M6 {r:Af} (V:BU r) (a:Ao):0≤maxW r a∧maxW r a≤r.to_-r.fr:=by
  constructor
  · have h:=GM r a
    obtain⟨w,hw⟩:=List.exists_mem_of_ne_nil _ h
    exact Int.le_trans (Me hw) (Q9.1 (Int.le_refl _) w hw)
  · refine Q9.2 fun w hw=>?_
    obtain⟨k,_,rfl⟩:=List.mem_map.1 hw
    exact R0 V.looked.2.1
end Go.Proofs.Ytokchpjijlebiaa
namespace Go.Proofs.Ytokchpjijlebiaa
open Go Go.RowKit
end Go.Proofs.Ytokchpjijlebiaa
namespace Go.Proofs.Ytokchpjijlebiaa
open Go Go.RowKit
structure Ru (p q:Bd×A9):Prop where
  stop:p.1.stop=q.1.stop
  turned:p.1.turned=q.1.turned
  tm:p.1.tm≤q.1.tm
  turn:p.2.turn≤q.2.turn
  len:p.2.legs.length=q.2.legs.length
  legs:∀ (k:Nat)(d d':Int),p.2.legs[k]? = some d→q.2.legs[k]? = some d'→d≤d'
def F8 (st:Int) (p:Bd×A9) (k:Int):Option Int:=BJ (Ce st p.1.turned p.2.turn p.2.legs 40 p.1.tm p.1.stop) k
theorem Ru.at {p q:Bd×A9} (h:Ru p q) {st:Int} (ht:2*p.1.turned+1<st) (k:Int):(F8 st p k=none∧F8 st q k=none)∨∃ a b,F8 st p k=some a∧F8 st q k=some b∧a≤b:=by
  unfold F8
  rw [← h.stop,← h.turned]
  exact Hr ht h.len h.legs h.turn 40 _ _ _ k h.tm
theorem FR {st:Int} {p:(Bd×A9)×(Bd×A9)} {k:Int} {x:Rg}:C6 st 40 p k=some x↔F8 st p.1 k=some x.lo∧F8 st p.2 k=some x.hi:=by
  unfold C6 F8
  cases BJ (Ce st p.1.1.turned p.1.2.turn p.1.2.legs 40 p.1.1.tm p.1.1.stop) k with
  | none=>simp
  | some a =>
    cases BJ (Ce st p.2.1.turned p.2.2.turn p.2.2.legs 40 p.2.1.tm p.2.1.stop) k with
    | none=>simp
    | some b =>
      simp only [Option.some.injEq]
      constructor
      · rintro rfl; exact⟨rfl,rfl⟩
      · rintro⟨h1,h2⟩; cases x; simp_all
theorem LF {st:Int} {p p':(Bd×A9)×(Bd×A9)} (h1:Ru p.1 p'.1) (h2:Ru p'.2 p.2) (t1:2*p.1.1.turned+1<st) (t2:2*p'.2.1.turned+1<st) {k:Int} {x:Rg} (h:C6 st 40 p k=some x):∃ x',C6 st 40 p' k=some x'∧x.lo≤x'.lo∧x'.hi≤x.hi:=by
  obtain⟨a1,a2⟩:=FR.1 h
  rcases h1.at t1 k with⟨b1,_⟩ | ⟨a,b,b1,b2,b3⟩
  · rw [b1] at a1; cases a1
  · rcases h2.at t2 k with⟨_,c1⟩ | ⟨c,d,c1,c2,c3⟩
    · rw [c1] at a2; cases a2
    · rw [b1] at a1; cases a1
      rw [c2] at a2; cases a2
      exact⟨⟨b,c⟩,FR.2 ⟨b2,c1⟩,b3,c3⟩
structure QA (r x:Af):Prop where
  ll:x.legs.length=r.legs.length
  legs:∀ (i:Nat)(a b:Rg),r.legs[i]? = some a→x.legs[i]? = some b→a.lo≤b.lo∧b.lo≤b.hi∧b.hi≤a.hi
  turn:r.turn.lo≤x.turn.lo∧x.turn.lo≤x.turn.hi∧x.turn.hi≤r.turn.hi
  lb:x.buses.length=r.buses.length
  buses:∀ (i:Nat)(a b:CG),r.buses[i]? = some a→x.buses[i]? = some b→a.stop=b.stop∧a.tm.lo≤b.tm.lo∧b.tm.lo≤b.tm.hi∧b.tm.hi≤a.tm.hi
  spares:x.spares=r.spares
  unit:x.unit=r.unit
  gap:x.gap=r.gap
  fr:x.fr=r.fr
  to_:x.to_=r.to_
theorem QA.valid {r x:Af} (h:QA r x) (V:BU r):BU x:=by
  refine⟨by rw [h.lb]; exact V.nb,by rw [h.spares]; exact V.ns,by rw [h.ll]; exact V.odd,by rw [h.ll]; exact V.nl,?_,by rw [h.unit]; exact V.unit,by rw [h.gap]; exact V.gap,by rw [h.fr,h.to_]; exact V.looked,fun b hb=>?_,fun b hb=>?_,?_⟩
  · have:=V.turn; have:=h.turn; omega
  · obtain⟨i,hi,rfl⟩:=List.mem_iff_getElem.1 hb
    have hi':i<r.legs.length:=by rw [← h.ll]; exact hi
    have:=h.legs i _ _ (List.getElem?_eq_getElem hi') (List.getElem?_eq_getElem hi)
    have:=V.legs _ (List.getElem_mem hi')
    omega
  · obtain⟨i,hi,rfl⟩:=List.mem_iff_getElem.1 hb
    have hi':i<r.buses.length:=by rw [← h.lb]; exact hi
    have:=h.buses i _ _ (List.getElem?_eq_getElem hi') (List.getElem?_eq_getElem hi)
    have:=V.buses _ (List.getElem_mem hi')
    have:=h.ll
    omega
  · rw [h.spares,h.ll]; exact V.spares
theorem QA.acts {r x:Af} (h:QA r x) (a:Ao):G2 x a=G2 r a:=by
  unfold G2
  rw [h.lb,h.spares]
  congr 1
  rw [Bool.eq_iff_iff,List.all_eq_true,List.all_eq_true]
  have key:∀ i,i<r.buses.length→I1 x a i=I1 r a i:=fun i hi=>by
    have hi':i<x.buses.length:=by rw [h.lb]; exact hi
    have:=(h.buses i _ _ (List.getElem?_eq_getElem hi) (List.getElem?_eq_getElem hi')).1
    unfold I1
    rw [B6 _ _ hi,B6 _ _ hi',this,h.ll]
  constructor
  · intro H i hi; rw [← key i (by simpa using hi)]; exact H i hi
  · intro H i hi; rw [key i (by simpa using hi)]; exact H i hi
theorem QA.legsLo {r x:Af} (h:QA r x):∀ (k:Nat)(d d':Int),(r.legs.map Rg.lo)[k]? = some d→(x.legs.map Rg.lo)[k]? = some d'→d≤d':=fun k d d' h1 h2=>by
  rw [List.getElem?_map] at h1 h2
  obtain⟨a,ha,rfl⟩:=Option.map_eq_some_iff.1 h1
  obtain⟨b,hb,rfl⟩:=Option.map_eq_some_iff.1 h2
  exact(h.legs k a b ha hb).1
theorem QA.legsHi {r x:Af} (h:QA r x):∀ (k:Nat)(d d':Int),(x.legs.map Rg.hi)[k]? = some d→(r.legs.map Rg.hi)[k]? = some d'→d≤d':=fun k d d' h1 h2=>by
  rw [List.getElem?_map] at h1 h2
  obtain⟨a,ha,rfl⟩:=Option.map_eq_some_iff.1 h1
  obtain⟨b,hb,rfl⟩:=Option.map_eq_some_iff.1 h2
  exact(h.legs k b a hb ha).2.2
theorem QA.dom {r x:Af} (h:QA r x) (V:BU r) {a:Ao} (A:CR r a) (k:Nat):Tp (AA r a k) (AA x a k):=by
  intro p hp
  have hV:=h.valid V
  unfold AA at hp ⊢
  obtain⟨P,hP,hs⟩:=List.mem_filterMap.1 hp
  rw [h.ll]
  unfold CQ at hP
  rcases List.mem_append.1 hP with hP | hP
  · obtain⟨i,hi,rfl⟩:=List.mem_map.1 hP
    have hi:i<r.buses.length:=by simpa using hi
    have hi':i<x.buses.length:=by rw [h.lb]; exact hi
    have hb:=h.buses i _ _ (List.getElem?_eq_getElem hi) (List.getElem?_eq_getElem hi')
    have o1:=(Kr Dv.low V A i hi).t
    have ht:=h.turn
    have L1:Ru (D2 r a Rg.lo i) (D2 x a Rg.lo i):=by
      refine⟨?_,rfl,?_,ht.1,by simp [D2,h.ll],h.legsLo⟩
      · simp only [D2,B6 _ _ hi,B6 _ _ hi']; exact hb.1
      · simp only [D2,B6 _ _ hi,B6 _ _ hi',h.unit]; omega
    have L2:Ru (D2 x a Rg.hi i) (D2 r a Rg.hi i):=by
      refine⟨?_,rfl,?_,ht.2.2,by simp [D2,h.ll],h.legsHi⟩
      · simp only [D2,B6 _ _ hi,B6 _ _ hi']; exact hb.1.symm
      · simp only [D2,B6 _ _ hi,B6 _ _ hi',h.unit]; omega
    obtain⟨x',e1,e2,e3⟩:=LF (p:=(D2 r a Rg.lo i,D2 r a Rg.hi i)) (p':=(D2 x a Rg.lo i,D2 x a Rg.hi i)) L1 L2 o1 o1 hs
    refine⟨x',List.mem_filterMap.2 ⟨_,List.mem_append_left _ (List.mem_map_of_mem (List.mem_range.2 hi')),e1⟩,e2,e3⟩
  · obtain⟨j,hj,hc⟩:=List.mem_filterMap.1 hP
    split at hc
    · rename_i hsp
      cases hc
      have hj:j<r.spares.length:=by simpa using hj
      have hj':j<x.spares.length:=by rw [h.spares]; exact hj
      have o1:=(M4 Dv.low V j hj).t
      have L1:Ru (GG r Rg.lo j) (GG x Rg.lo j):=⟨by simp [GG,h.spares],rfl,by simp [GG,h.spares],Int.le_refl _,by simp [GG,h.ll],h.legsLo⟩
      have L2:Ru (GG x Rg.hi j) (GG r Rg.hi j):=⟨by simp [GG,h.spares],rfl,by simp [GG,h.spares],Int.le_refl _,by simp [GG,h.ll],h.legsHi⟩
      obtain⟨x',e1,e2,e3⟩:=LF (p:=(GG r Rg.lo j,GG r Rg.hi j)) (p':=(GG x Rg.lo j,GG x Rg.hi j)) L1 L2 o1 o1 hs
      refine⟨x',List.mem_filterMap.2 ⟨_,List.mem_append_right _ (List.mem_filterMap.2 ⟨j,List.mem_range.2 hj',by rw [if_pos hsp]⟩),e1⟩,e2,e3⟩
    · cases hc
def QB (v w:List Int):Prop:=v.length=w.length∧∀ (s:Nat)(x y:Int),v[s]? = some x→w[s]? = some y→x≤y
theorem Pi {r x:Af} {a b:Ao} (hl:x.legs.length=r.legs.length) (h:∀ k<r.legs.length+1,WR x.fr x.to_ (AA x b k)≤WR r.fr r.to_ (AA r a k)):QB (B7 x b) (B7 r a):=by
  unfold B7
  refine⟨by simp [hl],fun s u v hu hv=>?_⟩
  rw [List.getElem?_map] at hu hv
  obtain⟨i,hi,rfl⟩:=Option.map_eq_some_iff.1 hu
  obtain⟨j,hj,rfl⟩:=Option.map_eq_some_iff.1 hv
  have hs:s<r.legs.length+1:=by
    rcases Nat.lt_or_ge s (r.legs.length+1) with h' | h'
    · exact h'
    · rw [List.getElem?_eq_none (by simpa using h')] at hj; cases hj
  rw [List.getElem?_range hs] at hj
  rw [hl,List.getElem?_range hs] at hi
  cases hi; cases hj
  exact h s hs
theorem QB.maxL {v w:List Int} (h:QB v w) (hv:v≠[]) (hw:w≠[]):maxL v≤maxL w:=(Ou hv).2 fun x hx=>by
  obtain⟨i,hi⟩:=List.mem_iff_getElem?.1 hx
  have hiv:i<v.length:=by
    rcases Nat.lt_or_ge i v.length with h' | h'
    · exact h'
    · rw [List.getElem?_eq_none h'] at hi; cases hi
  have hiw:i<w.length:=by rw [← h.1]; exact hiv
  have:=h.2 i x _ hi (List.getElem?_eq_getElem hiw)
  have:=(Ou hw).1 (Int.le_refl _) _ (List.getElem_mem hiw)
  omega
theorem QA.worsts {r x:Af} (h:QA r x) (V:BU r) {a:Ao} (A:CR r a):QB (B7 x a) (B7 r a) :=
  Pi h.ll fun k _=>by
    rw [h.fr,h.to_]
    exact SP (h.dom V A k) (Int.le_refl _) V.looked.2.1 (Int.le_refl _)
theorem QA.maxW {r x:Af} (h:QA r x) (V:BU r) {a:Ao} (A:CR r a):maxW x a≤maxW r a:=(h.worsts V A).maxL (GM _ _) (GM _ _)
end Go.Proofs.Ytokchpjijlebiaa
namespace Go.Proofs.Ytokchpjijlebiaa
open Go Go.RowKit
end Go.Proofs.Ytokchpjijlebiaa
namespace Go.Proofs.Ytokchpjijlebiaa
open Go Go.RowKit
def Fa (st:Nat) (p:Bd×A9):List Int:=(List.range st).map fun(k:Nat)=>(F8 (st:Int) p k).getD (-1)
def Ll (out:List Int) (pl:List (Int×Int)):List Int:=pl.foldl (fun o p=>o.set p.1.toNat p.2) out
theorem J9:∀ (pl:List (Int×Int))(out:List Int),(Ll out pl).length=out.length
  | [],_=>rfl
  | p::r,out=>by
    show(Ll (out.set p.1.toNat p.2) r).length=_
    rw [J9 r]; simp
theorem M7:∀ (pl:List (Int×Int))(out:List Int)(k:Nat),(pl.map Prod.fst).Nodup→(∀ p∈pl,0≤p.1)→k<out.length→(Ll out pl)[k]? = some ((BJ pl (k:Int)).getD out[k]!)
  | [],out,k,_,_,hk=>by
    show out[k]? = _
    rw [List.getElem?_eq_getElem hk,B6 _ _ hk]; rfl
  | p::r,out,k,hn,h0,hk=>by
    show(Ll (out.set p.1.toNat p.2) r)[k]? = _
    rw [List.map_cons,List.nodup_cons] at hn
    rw [M7 r _ k hn.2 (fun q hq=>h0 q (List.mem_cons_of_mem _ hq)) (by simpa using hk),BJ]
    have hp:=h0 p (by simp)
    by_cases hpk:p.1=(k:Int)
    · have hr:BJ r (k:Int)=none:=HV fun q hq hqk=>hn.1 (by rw [hpk,← hqk]; exact List.mem_map_of_mem hq)
      rw [hr,if_pos hpk,B6 _ _ (by simpa using hk),show p.1.toNat=k by omega,List.getElem_set_self]
      rfl
    · rw [if_neg hpk,B6 _ _ (by simpa using hk),B6 _ _ hk,List.getElem_set_ne (by omega)]
theorem NB:∀ (n i:Nat)(out:List Int),out.length<n+i→i≤out.length→out.length≤20→(∀ k,k<i→out[k]? = some (-1))→Df n out (i:Int)=some (List.replicate out.length (-1))
  | 0,i,out,h,hi,_,_=>by omega
  | n+1,i,out,h,hi,hb,hk=>by
    rw [Df,BN]
    by_cases hx:i<out.length
    · simp only [hx,decide_true,cond_true]
      rw [AI _ _ hx,Option.bind_some,Ms _ _ _ hx,Option.bind_some,De i (by omega),NB n (i+1) _ (by simp; omega) (by simp; omega) (by simpa using hb) fun k hk'=>?_]
      · simp
      · rw [List.getElem?_set]
        by_cases hik:i=k
        · subst hik; simp [hx]
        · rw [if_neg hik]; exact hk k (by omega)
    · simp only [hx,decide_false,cond_false,Option.some.injEq]
      apply List.ext_getElem?
      intro k
      by_cases hks:k<out.length
      · rw [hk k (by omega),List.getElem?_replicate,if_pos hks]
      · rw [List.getElem?_eq_none (by omega),List.getElem?_eq_none (by simp; omega)]
theorem NC (r:Af) (hl:r.legs.length≤20) (hodd:r.legs.length % 2=1) (turned turn:Int) (legs:List Int) (hq:Q7 turn legs) (hql:legs.length=r.legs.length) (ht:2*turned+1<(r.legs.length:Int)+1):∀ (n:Nat)(tm s:Int)(out:List Int),out.length=r.legs.length+1→0≤tm→tm+300*n≤1000000000→0≤s→s≤(r.legs.length:Int)+1→(r.legs.length:Int)+1-s<n →
    Cc n r turned turn legs out s tm=some (Ll out (Ce ((r.legs.length:Int)+1) turned turn legs n tm s))
  | 0,tm,s,out,_,_,_,h1,h2,h3=>by omega
  | n+1,tm,s,out,ho,h0,hb,hs,h1,h2=>by
    have IH:=NC r hl hodd turned turn legs hq hql ht n
    obtain⟨t0,t1,hq1,hq2⟩:=hq
    rw [Cc,Ce,ho]
    by_cases hc:0≤s∧s<(r.legs.length:Int)+1
    · obtain⟨k,rfl⟩:∃ k:Nat,s=k:=⟨s.toNat,by omega⟩
      have hk:k<out.length:=by omega
      rw [decide_eq_true (by omega),cond_true,if_pos hc,AI _ _ hk,Option.bind_some,Ms _ _ _ hk,Option.bind_some]
      show _=some (Ll (out.set ((k:Int)).toNat tm) _)
      rw [Int.toNat_natCast]
      by_cases hst:(k:Int)=turned
      · rw [if_pos hst,beq_iff_eq.2 hst,cond_true,J7 n r hl,Option.bind_some]
        rw [GF (x:=2*_) (by omega) (by omega),GF (x:=2*(((r.legs.length+1) / 2:Nat):Int)-1) (by omega) (by omega),GF (x:=_-(k:Int)) (by omega) (by omega),GF (x:=tm+turn) (by omega) (by omega)]
        rw [show 2*(((r.legs.length+1) / 2:Nat):Int)-1-(k:Int)=(r.legs.length:Int)+1-1-(k:Int) by omega]
        exact IH _ _ _ (by simpa using ho) (by omega) (by omega) (by omega) (by omega) (by omega)
      · rw [if_neg hst,beq_eq_false_iff_ne.2 hst,cond_false]
        by_cases hsl:k<legs.length
        · have hd:=hq2 _ (List.getElem_mem hsl)
          rw [decide_eq_true (by omega),cond_true,AI _ _ hsl,Option.bind_some,List.getElem?_eq_getElem hsl]
          simp only []
          rw [GF (x:=tm+_) (by omega) (by omega),De k (by omega),IH _ _ _ (by simpa using ho) (by omega) (by omega) (by omega) (by omega) (by omega)]
          rfl
        · rw [decide_eq_false (by omega),cond_false,List.getElem?_eq_none (by omega)]
          simp only []
          have e:(k:Int)+1=(r.legs.length:Int)+1:=by omega
          rw [GF (x:=(k:Int)+1) (by omega) (by omega),e]
          cases n with
          | zero=>omega
          | succ n =>
            rw [Cc,List.length_set,ho,decide_eq_false (by omega),cond_false]
            rfl
    · rw [decide_eq_false (by omega),cond_false,if_neg hc]
      rfl
theorem JA (n:Nat) (r:Af) (V:BU r) (p:Bd×A9) (ok:E9 r p) (hn:60≤n) (hn2:n≤900):FA n r p.1.stop p.1.tm p.1.turned p.2.turn p.2.legs=some (Fa (r.legs.length+1) p):=by
  have:=V.nl
  have t0:=ok.tm0
  have t1:=ok.tm1
  have s0:=ok.s0
  have s1:=ok.s1
  unfold FA
  rw [Gu n r (by omega),Option.bind_some]
  have eM:mk ((r.legs.length:Int)+1) (0:Int)=some (List.replicate (r.legs.length+1) 0):=by
    rw [show((r.legs.length:Int)+1)=((r.legs.length+1:Nat):Int) by omega]; exact Ts _ _ (by omega)
  rw [eM,Option.bind_some]
  have e1:=NB n 0 (List.replicate (r.legs.length+1) 0) (by simp; omega) (by omega) (by simp; omega) (fun k hk=>by omega)
  rw [Int.natCast_zero,List.length_replicate] at e1
  rw [e1,Option.bind_some,NC r (by omega) V.odd p.1.turned p.2.turn p.2.legs ok.q ok.len ok.t n p.1.tm p.1.stop _ (by simp) t0 (by omega) s0 s1 (by omega),Option.bind_some,Option.some.injEq]
  apply List.ext_getElem?
  intro k
  unfold Fa
  by_cases hk:k<r.legs.length+1
  · rw [M7 _ _ k (FP ok.t n _ _) (fun q hq=>(EZ ok.t n _ _ q hq).2.1) (by simpa using hk),List.getElem?_map,List.getElem?_range hk,Option.map_some,Option.some.injEq,M1 _ _ _ hk]
    unfold F8
    rw [G3 ok.t n 40 _ _ (by omega) (by omega)]
    rfl
  · rw [List.getElem?_eq_none (by rw [J9]; simp; omega),List.getElem?_eq_none (by simp; omega)]
theorem ND (r:Af) (a:Ao) (t:Ay) (V:BU r) (S:J5 r a t) (hok:∀ p∈Cx r a t,E9 r p) (m:Nat) (hm:60≤m):∀ (n i:Nat)(x:List (List Int)),r.buses.length+m<n+i→n≤900→i≤r.buses.length→x.length=i →
    EJ n r a t x (i:Int)=some (x++((List.range r.buses.length).drop i).map (fun i=>Fa (r.legs.length+1) (BT r a t i)))
  | 0,i,x,h,_,hi,_=>by omega
  | n+1,i,x,h,hn9,hi,h1=>by
    rw [EJ,BN]
    have:=S.nb
    by_cases hx:i<r.buses.length
    · have q1:i<a.holds.length:=by rw [S.holds]; exact hx
      have q2:i<a.turns.length:=by rw [S.turns]; exact hx
      have q3:i<t.tm.length:=by rw [S.tm]; exact hx
      have q4:i<t.turns.length:=by rw [S.tt]; exact hx
      have q5:i<t.legs.length:=by rw [S.legs]; omega
      have q6:i<(List.range r.buses.length).length:=by simpa using hx
      obtain⟨b1,b2⟩:=Jr (S.hold _ (List.getElem_mem q1)).1 (S.hold _ (List.getElem_mem q1)).2 S.unit.1 S.unit.2
      have b3:=S.tms _ (List.getElem_mem q3)
      have hmem:BT r a t i∈Cx r a t:=List.mem_append_left _ (List.mem_map_of_mem (List.mem_range.2 hx))
      have e:=JA n r V _ (hok _ hmem) (by omega) (by omega)
      unfold BT at e
      simp only [B6 _ _ hx,B6 _ _ q1,B6 _ _ q2,B6 _ _ q3,B6 _ _ q4,B6 _ _ q5] at e
      simp only [hx,decide_true,cond_true,AI _ _ hx,AI _ _ q1,AI _ _ q2,AI _ _ q3,AI _ _ q4,AI _ _ q5,Option.bind_some]
      rw [GF (x:=a.holds[i]*r.unit) (by omega) (by omega),GF (by omega) (by omega),e,Option.bind_some,DH _ _ (by simp; omega),Option.bind_some]
      rw [De i (by omega),ND r a t V S hok m hm n (i+1) _ (by omega) (by omega) (by omega) (by simp; omega),AT q6,List.append_assoc]
      simp only [List.getElem_range,List.map_cons,BT,B6 _ _ hx,B6 _ _ q1,B6 _ _ q2,B6 _ _ q3,B6 _ _ q4,B6 _ _ q5]
      rfl
    · have:i=r.buses.length:=by omega
      simp [this]
theorem NE (r:Af) (a:Ao) (t:Ay) (V:BU r) (S:J5 r a t) (hok:∀ p∈Cx r a t,E9 r p) (m:Nat) (hm:60≤m):∀ (n i:Nat)(x:List (List Int)),r.spares.length+m<n+i→n≤900→i≤r.spares.length→x.length≤100+i →
    Ee n r a t x (i:Int)=some (x++(((List.range r.spares.length).drop i).filterMap (G0 r a t)).map (Fa (r.legs.length+1)))
  | 0,i,x,h,_,hi,_=>by omega
  | n+1,i,x,h,hn9,hi,h1=>by
    rw [Ee,BN]
    have:=S.ns
    have:=S.nb
    by_cases hx:i<r.spares.length
    · have q1:i<a.spares.length:=by rw [S.spares]; exact hx
      have q5:r.buses.length+i<t.legs.length:=by rw [S.legs]; omega
      have q6:i<(List.range r.spares.length).length:=by simpa using hx
      simp only [hx,decide_true,cond_true,AI _ _ hx,AI _ _ q1,Option.bind_some]
      rw [AT q6]
      simp only [List.getElem_range,List.filterMap_cons,G0,B6 _ _ hx,B6 _ _ q1,B6 _ _ q5]
      have IH:=NE r a t V S hok m hm n (i+1)
      cases hs:a.spares[i] with
      | true =>
        have hmem:(⟨(r.spares[i]).stop,(r.spares[i]).tm,-1⟩,⟨t.legs[r.buses.length+i],0⟩)∈Cx r a t:=by
          refine List.mem_append_right _ (List.mem_filterMap.2 ⟨i,List.mem_range.2 hx,?_⟩)
          unfold G0
          rw [B6 _ _ hx,B6 _ _ q1,B6 _ _ q5,hs]
          rfl
        have e:=JA n r V _ (hok _ hmem) (by omega) (by omega)
        simp only [] at e
        simp only [cond_true,if_true]
        rw [GF (x:=((r.buses.length:Nat):Int)+(i:Int)) (by omega) (by omega),show((r.buses.length:Nat):Int)+(i:Int)=((r.buses.length+i:Nat):Int) by omega,AI _ _ q5,Option.bind_some,e,Option.bind_some,DH _ _ (by simp; omega),Option.bind_some]
        rw [De i (by omega),IH _ (by omega) (by omega) (by omega) (by simp; omega),List.append_assoc]
        rfl
      | false =>
        simp only [cond_false]
        rw [De i (by omega),IH _ (by omega) (by omega) (by omega) (by omega)]
        rfl
    · have:i=r.spares.length:=by omega
      have hd:(List.range r.spares.length).drop r.spares.length=[]:=List.drop_eq_nil_of_le (by simp)
      simp [this,hd]
theorem Qh (n:Nat) (r:Af) (a:Ao) (t:Ay) (V:BU r) (S:J5 r a t) (hok:∀ p∈Cx r a t,E9 r p) (hn:80≤n) (hn2:n≤900):Ky n r a t=some ((Cx r a t).map (Fa (r.legs.length+1))):=by
  have:=S.nb
  have:=S.ns
  have e1:=ND r a t V S hok 60 (by omega) n 0 [] (by omega) hn2 (by omega) rfl
  have e2:=NE r a t V S hok 60 (by omega) n 0 ((List.range r.buses.length).map fun i=>Fa (r.legs.length+1) (BT r a t i)) (by omega) hn2 (by omega) (by simp; omega)
  simp only [Int.natCast_zero,List.nil_append,List.drop_zero] at e1 e2
  unfold Ky
  simp only [e1,Option.bind_some,e2,Cx,List.map_append,List.map_map]
  rfl
end Go.Proofs.Ytokchpjijlebiaa
namespace Go.Proofs.Ytokchpjijlebiaa
open Go Go.RowKit
def Ss (r:Af) (x:Int):Bool:=decide (r.fr≤x∧x≤r.to_)
theorem I3 (r:Af) (s st:Nat) (hs:s<st) (ps:List (List Int)) (hps:∀ p∈ps,p.length=st) (hb:ps.length≤50):∀ (n i:Nat)(acc:List Int),ps.length<n+i→i≤ps.length→acc.length≤100+i →
    CW n r (s:Int) ps acc (i:Int)=some (acc++((ps.drop i).map fun p=>p[s]!).filter (Ss r))
  | 0,i,acc,h,hi,_=>by omega
  | n+1,i,acc,h,hi,ha=>by
    rw [CW,BN]
    by_cases hx:i<ps.length
    · have hp:=hps _ (List.getElem_mem hx)
      have hsp:s<(ps[i]).length:=by omega
      simp only [hx,decide_true,cond_true]
      rw [AI _ _ hx,Option.bind_some,AI _ _ hsp,Option.bind_some,DL,Option.bind_some,AT hx,List.map_cons,List.filter_cons,B6 _ _ hsp]
      show(bif Ss r _ then _ else _)=_
      cases hin:Ss r (ps[i])[s] with
      | true =>
        rw [cond_true,DH _ _ (by simp; omega),Option.bind_some,De i (by omega),I3 r s st hs ps hps hb n (i+1) _ (by omega) (by omega) (by simp; omega)]
        simp
      | false =>
        rw [cond_false,De i (by omega),I3 r s st hs ps hps hb n (i+1) _ (by omega) (by omega) (by omega)]
        simp
    · have:i=ps.length:=by omega
      simp [this]
theorem LG (o x:List Int) (y:Nat) (hy:y<o.length) (hb:x.length≤100):∀ (n j:Nat)(b:Bool),x.length<n+j→j≤x.length→CX n o x (y:Int) (j:Int) b=some (b || decide (o[y]∈x.drop j))
  | 0,j,b,h,hj=>by omega
  | n+1,j,b,h,hj=>by
    rw [CX,BN]
    by_cases hx:j<x.length
    · simp only [hx,decide_true,cond_true]
      have IH:=LG o x y hy hb n (j+1)
      cases b with
      | true =>
        rw [cond_true,De j (by omega),IH true (by omega) (by omega)]
        simp
      | false =>
        rw [cond_false,AI _ _ hx,Option.bind_some,AI _ _ hy,Option.bind_some,De j (by omega),IH _ (by omega) (by omega),AT hx,Bool.false_or]
        congr 1
        by_cases he:x[j]=o[y]
        · rw [beq_iff_eq.2 he,Bool.true_or,decide_eq_true (List.mem_cons.2 (.inl he.symm))]
        · rw [beq_eq_false_iff_ne.2 he,Bool.false_or,decide_eq_decide,List.mem_cons]
          exact⟨.inr,fun h=>h.resolve_left fun q=>he q.symm⟩
    · have:j=x.length:=by omega
      simp [this]
theorem LH (x:List Int) (v:Int) (hs:x.Pairwise (· < ·)) (hv:v ∉ x) (hb:x.length≤100):∀ (k n:Nat),k≤x.length→k<n→(∀ y∈x.drop k,v<y) →
    ∃ l,CY n (x.take k++v::x.drop k) (k:Int)=some l∧l.Pairwise (· < ·)∧(∀ y,y∈l↔y=v∨y∈x)∧l.length=x.length+1
  | 0,0,_,h,_=>by omega
  | 0,n+1,hk,_,hd=>by
    refine⟨v::x,?_,?_,fun y=>by simp,by simp⟩
    · rw [CY]; rfl
    · exact List.pairwise_cons.2 ⟨fun y hy=>hd y (by simpa using hy),hs⟩
  | k+1,0,_,h,_=>by omega
  | k+1,n+1,hk,hn,hd=>by
    have hkx:k<x.length:=by omega
    have hlen:(x.take (k+1)++v::x.drop (k+1)).length=x.length+1:=by simp; omega
    have g1:(x.take (k+1)++v::x.drop (k+1))[k+1]? = some v:=by
      rw [List.getElem?_append_right (by simp; omega)]
      simp [Nat.min_eq_left hk]
    have g0:(x.take (k+1)++v::x.drop (k+1))[k]? = some x[k]:=by
      rw [List.getElem?_append_left (by simp; omega),List.getElem?_take_of_lt (by omega),List.getElem?_eq_getElem hkx]
    rw [CY,decide_eq_true (by omega),cond_true,GF (x:=((k+1:Nat):Int)-1) (by omega) (by omega),show((k+1:Nat):Int)-1=(k:Int) by omega]
    simp only [Qc,g1,g0,Option.bind_some]
    by_cases hlt:v<x[k]
    · have hu:upd (x.take (k+1)++v::x.drop (k+1)) ((k+1:Nat):Int) x[k]=some ((x.take (k+1)++v::x.drop (k+1)).set (k+1) x[k]):=Ms _ _ _ (by omega)
      have hu2:((x.take (k+1)++v::x.drop (k+1)).set (k+1) x[k]).set k v=x.take k++v::x.drop k:=by
        apply List.ext_getElem?
        intro j
        rw [List.getElem?_set,List.getElem?_set,List.length_set,hlen]
        rcases Nat.lt_trichotomy j k with hj | hj | hj
        · rw [if_neg (by omega),if_neg (by omega),List.getElem?_append_left (by simp; omega),List.getElem?_append_left (by simp; omega),List.getElem?_take_of_lt (by omega),List.getElem?_take_of_lt (by omega)]
        · subst hj
          rw [if_pos rfl,if_pos (by omega),List.getElem?_append_right (by rw [List.length_take]; omega)]
          simp [Nat.min_eq_left (Nat.le_of_lt hkx)]
        · rw [if_neg (by omega)]
          by_cases hj2:k+1=j
          · subst hj2
            rw [if_pos rfl,if_pos (by omega),List.getElem?_append_right (by simp; omega)]
            rw [show k+1-(x.take k).length=1 by simp; omega]
            simp
          · rw [if_neg hj2,List.getElem?_append_right (by simp; omega),List.getElem?_append_right (by simp; omega)]
            rw [show j-(x.take (k+1)).length=(j-k-2)+1 by simp; omega,show j-(x.take k).length=(j-k-1)+1 by simp; omega,List.getElem?_cons_succ,List.getElem?_cons_succ,List.getElem?_drop,List.getElem?_drop]
            congr 1; omega
      have hg:((x.take (k+1)++v::x.drop (k+1)).set (k+1) x[k])[k]? = some x[k]:=by
        rw [List.getElem?_set,if_neg (by omega),g0]
      rw [decide_eq_true hlt,cond_true,hu]
      simp only [Option.bind_some]
      rw [hg,Option.bind_some,Ms _ _ _ (by rw [List.length_set,hlen]; omega),Option.bind_some,hu2]
      refine LH x v hs hv hb k n (by omega) (by omega) fun y hy=>?_
      rw [AT hkx] at hy
      rcases List.mem_cons.1 hy with rfl | hy
      · exact hlt
      · exact hd y hy
    · rw [decide_eq_false hlt,cond_false]
      have hxv:x[k]<v:=by
        have:x[k]≠v:=fun q=>hv (by rw [← q]; exact List.getElem_mem hkx)
        omega
      refine⟨_,rfl,?_,fun y=>?_,hlen⟩
      · rw [List.pairwise_append,List.pairwise_cons]
        refine⟨hs.sublist (List.take_sublist _ _),⟨hd,hs.sublist (List.drop_sublist _ _)⟩,fun y hy z hz=>?_⟩
        have hyv:y<v:=by
          obtain⟨j,hj,rfl⟩:=List.mem_iff_getElem.1 hy
          rw [List.length_take] at hj
          rw [List.getElem_take]
          rcases Nat.lt_or_ge j k with h' | h'
          · have:=List.pairwise_iff_getElem.1 hs j k (by omega) hkx h'
            omega
          · have:j=k:=by omega
            subst this; exact hxv
        rcases List.mem_cons.1 hz with rfl | hz
        · exact hyv
        · have:=hd z hz; omega
      · rw [List.mem_append,List.mem_cons]
        have:=List.take_append_drop (k+1) x
        constructor
        · rintro(h | rfl | h)
          · exact .inr (List.mem_of_mem_take h)
          · exact .inl rfl
          · exact .inr (List.mem_of_mem_drop h)
        · rintro(rfl | h)
          · exact .inr (.inl rfl)
          · rw [← this] at h
            rcases List.mem_append.1 h with h | h
            · exact .inl h
            · exact .inr (.inr h)
theorem I4 (o:List Int) (ho:o.length≤20):∀ (n i:Nat)(x:List Int),o.length+30<n+i→i≤o.length→x.Pairwise (· < ·)→x.length≤i→∃ l,CZ n o x (i:Int)=some l∧l.Pairwise (· < ·)∧(∀ y,y∈l↔y∈x∨y∈o.drop i)∧l.length≤o.length
  | 0,i,x,h,hi,_,_=>by omega
  | n+1,i,x,h,hi,hs,hl=>by
    rw [CZ,BN]
    by_cases hx:i<o.length
    · simp only [hx,decide_true,cond_true]
      have e3:=LG o x i hx (by omega) n 0 false (by omega) (by omega)
      rw [Int.natCast_zero,List.drop_zero,Bool.false_or] at e3
      rw [e3,Option.bind_some]
      by_cases hm:o[i]∈x
      · rw [decide_eq_true hm,cond_true,De i (by omega)]
        obtain⟨l,h1,h2,h3,h4⟩:=I4 o ho n (i+1) x (by omega) (by omega) hs (by omega)
        refine⟨l,h1,h2,fun y=>?_,h4⟩
        rw [h3,AT hx,List.mem_cons]
        constructor
        · rintro(h | h)
          · exact .inl h
          · exact .inr (.inr h)
        · rintro(h | rfl | h)
          · exact .inl h
          · exact .inl hm
          · exact .inr h
      · rw [decide_eq_false hm,cond_false,AI _ _ hx,Option.bind_some,DH _ _ (by simp; omega),Option.bind_some]
        obtain⟨l0,g1,g2,g3,g4⟩:=LH x o[i] hs hm (by omega) x.length n (Nat.le_refl _) (by omega) (by simp)
        rw [List.take_length,List.drop_length] at g1
        rw [List.length_append,List.length_singleton,GF (x:=((x.length+1:Nat):Int)-1) (by omega) (by omega),show((x.length+1:Nat):Int)-1=(x.length:Int) by omega,g1,Option.bind_some,De i (by omega)]
        obtain⟨l,h1,h2,h3,h4⟩:=I4 o ho n (i+1) l0 (by omega) (by omega) g2 (by omega)
        refine⟨l,h1,h2,fun y=>?_,h4⟩
        rw [h3,g3,AT hx,List.mem_cons]
        constructor
        · rintro((rfl | h) | h)
          · exact .inr (.inl rfl)
          · exact .inl h
          · exact .inr (.inr h)
        · rintro(h | rfl | h)
          · exact .inl (.inr h)
          · exact .inl (.inl rfl)
          · exact .inr h
    · have hi':i=o.length:=by omega
      have hd:o.drop i=[]:=List.drop_eq_nil_of_le (by omega)
      simp only [hx,decide_false,cond_false]
      exact⟨x,rfl,hs,fun y=>by rw [hd]; simp,by omega⟩
def Hu:List Int→Int
  | a::b::r=>max (b-a) (Hu (b::r))
  | _=>0
theorem GN:∀ l:List Int,0≤Hu l
  | []=>Int.le_refl _
  | [_]=>Int.le_refl _
  | a::b::r=>by
    have:=GN (b::r)
    unfold Hu
    omega
theorem NF (l:List Int) (hb:l.length≤100) (hr:∀ x∈l,0≤x∧x≤10000):∀ (n i:Nat)(acc:Int),l.length+1<n+i→1≤i→(i≤l.length∨i=1)→0≤acc→EK n l (i:Int) acc=some (max acc (Hu (l.drop (i-1))))
  | 0,i,acc,h,h1,hi,_=>by omega
  | n+1,i,acc,h,h1,hi,h0=>by
    rw [EK,BN]
    by_cases hx:i<l.length
    · obtain⟨j,rfl⟩:∃ j,i=j+1:=⟨i-1,by omega⟩
      have hj:j<l.length:=by omega
      have b1:=hr _ (List.getElem_mem hx)
      have b2:=hr _ (List.getElem_mem hj)
      simp only [hx,decide_true,cond_true]
      rw [AI _ _ hx,Option.bind_some,GF (x:=((j+1:Nat):Int)-1) (by omega) (by omega),show((j+1:Nat):Int)-1=(j:Int) by omega,AI _ _ hj,Option.bind_some,GF (x:=l[j+1]-l[j]) (by omega) (by omega),De (j+1) (by omega)]
      rw [NF l hb hr n (j+1+1) _ (by omega) (by omega) (by omega) (by split <;> omega)]
      rw [show j+1-1=j by omega,show j+1+1-1=j+1 by omega,AT hj,AT hx]
      show some (max (if l[j+1]-l[j]>acc then l[j+1]-l[j] else acc) (Hu (l[j+1]::l.drop (j+1+1))))=some (max acc (max (l[j+1]-l[j]) (Hu (l[j+1]::l.drop (j+1+1)))))
      congr 1
      split <;> omega
    · simp only [hx,decide_false,cond_false,Option.some.injEq]
      have:Hu (l.drop (i-1))=0:=by
        have hl:(l.drop (i-1)).length≤1:=by rw [List.length_drop]; omega
        cases hd:l.drop (i-1) with
        | nil=>rfl
        | cons a t =>
          cases t with
          | nil=>rfl
          | cons b t=>rw [hd] at hl; simp at hl
      rw [this]
      omega
theorem QC {g:Int} (h0:0≤g):∀ {l:List Int},l.Pairwise (· < ·)→(∀ a∈l,∀ b∈l,a<b→(∀ c∈l,¬ (a<c∧c<b))→b-a≤g)→Hu l≤g
  | [],_,_=>h0
  | [_],_,_=>h0
  | a::b::r,hs,h=>by
    rw [List.pairwise_cons] at hs
    have hab:=hs.1 b (by simp)
    have h1:=h a (by simp) b (by simp) hab fun c hc hcc=>by
      rcases List.mem_cons.1 hc with rfl | hc
      · omega
      · rcases List.mem_cons.1 hc with rfl | hc
        · omega
        · have:=(List.pairwise_cons.1 hs.2).1 c hc
          omega
    have h2:Hu (b::r)≤g:=QC h0 hs.2 fun x hx y hy hxy hno=>h x (List.mem_cons_of_mem _ hx) y (List.mem_cons_of_mem _ hy) hxy fun c hc hcc=>by
      rcases List.mem_cons.1 hc with rfl | hc
      · have:=hs.1 x hx; omega
      · exact hno c hc hcc
    unfold Hu
    omega
theorem QD {m e:Int}:∀ {l:List Int},l.Pairwise (· < ·)→m∈l→m<e→(∃ b∈l,e≤b)→(∀ c∈l,¬ (m<c∧c<e))→e-m≤Hu l
  | [],_,hm,_,_,_=>by simp at hm
  | [a],hs,hm,he,⟨b,hb,heb⟩,_=>by
    simp at hm hb
    omega
  | a::b::r,hs,hm,he,⟨y,hy,hye⟩,hno=>by
    rw [List.pairwise_cons] at hs
    have hab:=hs.1 b (by simp)
    have hbe:=hno b (by simp)
    rcases List.mem_cons.1 hm with rfl | hm
    · unfold Hu
      omega
    · have hm2:=hs.1 m hm
      have:=QD hs.2 hm he (by
        rcases List.mem_cons.1 hy with rfl | hy
        · omega
        · exact⟨y,hy,hye⟩) fun c hc=>hno c (List.mem_cons_of_mem _ hc)
      unfold Hu
      omega
def EP (r:Af) (a:Ao) (t:Ay) (s:Nat):List Int:=r.fr::r.to_::(((Cx r a t).map (Fa (r.legs.length+1))).map fun p=>p[s]!).filter (Ss r)
theorem Ov (n:Nat) (r:Af) (a:Ao) (t:Ay) (V:BU r) (S:J5 r a t) (hok:∀ p∈Cx r a t,E9 r p) (s:Nat) (hs:s<r.legs.length+1) (hn:90≤n) (hn2:n≤900) :
    ∃ l,Hz n r a t (s:Int)=some l∧l.Pairwise (· < ·)∧(∀ y,y∈l↔y∈EP r a t s)∧l.length≤20:=by
  have:=S.nb
  have:=S.ns
  have hlt:(Cx r a t).length≤r.buses.length+r.spares.length:=by
    unfold Cx
    rw [List.length_append,List.length_map,List.length_range]
    have:=List.length_filterMap_le (G0 r a t) (List.range r.spares.length)
    rw [List.length_range] at this
    omega
  unfold Hz
  rw [Qh n r a t V S hok (by omega) hn2,Option.bind_some]
  have e1:=I3 r s (r.legs.length+1) hs ((Cx r a t).map (Fa (r.legs.length+1))) (fun p hp=>by
    obtain⟨q,_,rfl⟩:=List.mem_map.1 hp
    unfold Fa; simp) (by rw [List.length_map]; omega) n 0 [r.fr,r.to_] (by rw [List.length_map]; omega) (by omega) (by simp)
  rw [Int.natCast_zero,List.drop_zero] at e1
  rw [e1,Option.bind_some]
  have hlen:([r.fr,r.to_]++(((Cx r a t).map (Fa (r.legs.length+1))).map fun p=>p[s]!).filter (Ss r)).length≤20:=by
    rw [List.length_append]
    have:=List.length_filter_le (Ss r) (((Cx r a t).map (Fa (r.legs.length+1))).map fun p=>p[s]!)
    rw [List.length_map,List.length_map] at this
    simp only [List.length_cons,List.length_nil]
    omega
  obtain⟨l,h1,h2,h3,h4⟩:=I4 _ hlen n 0 [] (by omega) (by omega) List.Pairwise.nil (by simp)
  rw [Int.natCast_zero] at h1
  rw [List.drop_zero] at h3
  rw [h1,Option.bind_some]
  exact⟨l,rfl,h2,fun y=>by rw [h3]; simp [EP],by omega⟩
theorem M8 (n:Nat) (r:Af) (a:Ao) (t:Ay) (V:BU r) (S:J5 r a t) (hok:∀ p∈Cx r a t,E9 r p) (s:Nat) (hs:s<r.legs.length+1) (hn:90≤n) (hn2:n≤900) :
    ∃ l,Jt n r a t (s:Int)=some (Hu l)∧l.Pairwise (· < ·)∧∀ y,y∈l↔y∈EP r a t s:=by
  obtain⟨l,h1,h2,h3,h4⟩:=Ov n r a t V S hok s hs hn hn2
  refine⟨l,?_,h2,h3⟩
  have hlk:=V.looked
  unfold Jt
  rw [h1,Option.bind_some]
  have e:=NF l (by omega) (fun x hx=>by
    have:=(h3 x).1 hx
    unfold EP at this
    rw [List.mem_cons,List.mem_cons,List.mem_filter] at this
    rcases this with rfl | rfl | ⟨_,h⟩
    · omega
    · omega
    · unfold Ss at h
      have:=of_decide_eq_true h
      omega) n 1 0 (by omega) (Nat.le_refl _) (.inr rfl) (Int.le_refl _)
  rw [show((1:Nat):Int)=1 from rfl,Nat.sub_self,List.drop_zero] at e
  rw [e,Option.bind_some,Option.some.injEq]
  have:=GN l
  omega
end Go.Proofs.Ytokchpjijlebiaa
namespace Go.Proofs.Ytokchpjijlebiaa
open Go Go.RowKit
structure EQ (r:Af) (t:Ay):Prop where
  tm:t.tm.length=r.buses.length
  tt:t.turns.length=r.buses.length
  legs:t.legs.length=r.buses.length+r.spares.length
  tms:∀ i<r.buses.length,(r.buses[i]!).tm.lo≤t.tm[i]!∧t.tm[i]!≤(r.buses[i]!).tm.hi
  tts:∀ i<r.buses.length,r.turn.lo≤t.turns[i]!∧t.turns[i]!≤r.turn.hi
  ll:∀ i<r.buses.length+r.spares.length,(t.legs[i]!).length=r.legs.length
  leg:∀ i<r.buses.length+r.spares.length,∀ (k:Nat)(x:Rg)(d:Int),r.legs[k]? = some x→(t.legs[i]!)[k]? = some d→x.lo≤d∧d≤x.hi
theorem EQ.sized {r:Af} {t:Ay} (h:EQ r t) (V:BU r) {a:Ao} (A:CR r a):J5 r a t:=by
  refine⟨by have:=V.nb; omega,by have:=V.ns; omega,A.holds,A.turns,A.spares,h.tm,h.tt,h.legs,fun x hx=>?_,V.unit,fun x hx=>?_⟩
  · obtain⟨i,hi,rfl⟩:=List.mem_iff_getElem.1 hx
    have:=A.hold i (by rw [← A.holds]; exact hi)
    rwa [B6 _ _ hi] at this
  · obtain⟨i,hi,rfl⟩:=List.mem_iff_getElem.1 hx
    have hib:i<r.buses.length:=by rw [← h.tm]; exact hi
    have:=h.tms i hib
    rw [B6 _ _ hi,B6 _ _ hib] at this
    have:=V.buses _ (List.getElem_mem hib)
    omega
theorem QE {r:Af} {t:Ay} (h:EQ r t) {i:Nat} (hi:i<r.buses.length+r.spares.length):∀ (k:Nat)(d d':Int),(r.legs.map Rg.lo)[k]? = some d→(t.legs[i]!)[k]? = some d'→d≤d':=fun k d d' h1 h2=>by
  rw [List.getElem?_map] at h1
  obtain⟨x,hx,rfl⟩:=Option.map_eq_some_iff.1 h1
  exact(h.leg i hi k x d' hx h2).1
theorem QF {r:Af} {t:Ay} (h:EQ r t) {i:Nat} (hi:i<r.buses.length+r.spares.length):∀ (k:Nat)(d d':Int),(t.legs[i]!)[k]? = some d→(r.legs.map Rg.hi)[k]? = some d'→d≤d':=fun k d d' h1 h2=>by
  rw [List.getElem?_map] at h2
  obtain⟨x,hx,rfl⟩:=Option.map_eq_some_iff.1 h2
  exact(h.leg i hi k x d hx h1).2
theorem EQ.small {r:Af} {t:Ay} (h:EQ r t) (V:BU r) {i:Nat} (hi:i<r.buses.length+r.spares.length):(t.legs[i]!).length≤20∧∀ d∈t.legs[i]!,0≤d∧d≤300:=by
  have hl:=h.ll i hi
  have:=V.nl
  refine⟨by omega,fun d hd=>?_⟩
  obtain⟨k,hk,rfl⟩:=List.mem_iff_getElem.1 hd
  have hkr:k<r.legs.length:=by omega
  have:=h.leg i hi k _ _ (List.getElem?_eq_getElem hkr) (List.getElem?_eq_getElem hk)
  have:=V.legs _ (List.getElem_mem hkr)
  omega
theorem EQ.busT {r:Af} {t:Ay} (h:EQ r t) (V:BU r) {a:Ao} (A:CR r a) {i:Nat} (hi:i<r.buses.length):E9 r (BT r a t i)∧Ru (D2 r a Rg.lo i) (BT r a t i)∧Ru (BT r a t i) (D2 r a Rg.hi i):=by
  have o:=Kr Dv.low V A i hi
  have h1:=h.tms i hi
  have h2:=h.tts i hi
  have h3:=h.ll i (by omega)
  have h4:=h.small V (i:=i) (by omega)
  have hT:=V.turn
  have hb:=V.buses _ (List.getElem_mem hi)
  have hh:=A.hold i hi
  have hm:=Jr hh.1 hh.2 V.unit.1 V.unit.2
  rw [B6 _ _ hi] at h1
  refine⟨⟨⟨by simp only [BT]; omega,by simp only [BT]; omega,h4.1,h4.2⟩,h3,o.t,by simp only [BT]; omega,by simp only [BT]; omega,o.s0,o.s1⟩,⟨rfl,rfl,?_,h2.1,(by rw [show(BT r a t i).2.legs=t.legs[i]! from rfl,h3]; simp [D2]),QE h (by omega)⟩,⟨rfl,rfl,?_,h2.2,(by rw [show(BT r a t i).2.legs=t.legs[i]! from rfl,h3]; simp [D2]),QF h (by omega)⟩⟩ <;>
  · simp only [D2,BT,B6 _ _ hi]; omega
theorem EQ.spT {r:Af} {t:Ay} (h:EQ r t) (V:BU r) {j:Nat} (hj:j<r.spares.length):E9 r (⟨(r.spares[j]!).stop,(r.spares[j]!).tm,-1⟩,⟨t.legs[r.buses.length+j]!,0⟩)∧Ru (GG r Rg.lo j) (⟨(r.spares[j]!).stop,(r.spares[j]!).tm,-1⟩,⟨t.legs[r.buses.length+j]!,0⟩)∧Ru (⟨(r.spares[j]!).stop,(r.spares[j]!).tm,-1⟩,⟨t.legs[r.buses.length+j]!,0⟩) (GG r Rg.hi j):=by
  have o:=M4 Dv.low V j hj
  have h3:=h.ll (r.buses.length+j) (by omega)
  have h4:=h.small V (i:=r.buses.length+j) (by omega)
  exact⟨⟨⟨Int.le_refl _,by simp,h4.1,h4.2⟩,h3,o.t,o.tm0,o.tm1,o.s0,o.s1⟩,⟨rfl,rfl,Int.le_refl _,Int.le_refl _,(by simp only []; rw [h3]; simp [GG]),QE h (by omega)⟩,⟨rfl,rfl,Int.le_refl _,Int.le_refl _,(by simp only []; rw [h3]; simp [GG]),QF h (by omega)⟩⟩
theorem Gx {r:Af} {a:Ao} {t:Ay} {p:Bd×A9}:p∈Cx r a t↔(∃ i<r.buses.length,p=BT r a t i)∨∃ j<r.spares.length,a.spares[j]! = true∧p=(⟨(r.spares[j]!).stop,(r.spares[j]!).tm,-1⟩,⟨t.legs[r.buses.length+j]!,0⟩):=by
  unfold Cx
  rw [List.mem_append,List.mem_map,List.mem_filterMap]
  constructor
  · rintro(⟨i,hi,rfl⟩ | ⟨j,hj,h⟩)
    · exact .inl ⟨i,List.mem_range.1 hi,rfl⟩
    · unfold G0 at h
      split at h
      · rename_i hs
        cases h
        exact .inr ⟨j,List.mem_range.1 hj,hs,rfl⟩
      · cases h
  · rintro(⟨i,hi,rfl⟩ | ⟨j,hj,hs,rfl⟩)
    · exact .inl ⟨i,List.mem_range.2 hi,rfl⟩
    · exact .inr ⟨j,List.mem_range.2 hj,by unfold G0; rw [if_pos hs]⟩
theorem HN {r:Af} {a:Ao} {s:Nat} {q:Rg}:q∈AA r a s↔(∃ i<r.buses.length,F8 ((r.legs.length:Int)+1) (D2 r a Rg.lo i) s=some q.lo∧F8 ((r.legs.length:Int)+1) (D2 r a Rg.hi i) s=some q.hi) ∨
    ∃ j<r.spares.length,a.spares[j]! = true∧F8 ((r.legs.length:Int)+1) (GG r Rg.lo j) s=some q.lo∧F8 ((r.legs.length:Int)+1) (GG r Rg.hi j) s=some q.hi:=by
  unfold AA CQ
  rw [List.mem_filterMap]
  constructor
  · rintro⟨P,hP,h⟩
    rw [FR] at h
    rcases List.mem_append.1 hP with hP | hP
    · obtain⟨i,hi,rfl⟩:=List.mem_map.1 hP
      exact .inl ⟨i,List.mem_range.1 hi,h⟩
    · obtain⟨j,hj,hc⟩:=List.mem_filterMap.1 hP
      split at hc
      · rename_i hs
        cases hc
        exact .inr ⟨j,List.mem_range.1 hj,hs,h⟩
      · cases hc
  · rintro(⟨i,hi,h⟩ | ⟨j,hj,hs,h⟩)
    · exact⟨_,List.mem_append_left _ (List.mem_map_of_mem (List.mem_range.2 hi)),FR.2 h⟩
    · exact⟨_,List.mem_append_right _ (List.mem_filterMap.2 ⟨j,List.mem_range.2 hj,by rw [if_pos hs]⟩),FR.2 h⟩
theorem EQ.ok {r:Af} {t:Ay} (h:EQ r t) (V:BU r) {a:Ao} (A:CR r a):∀ p∈Cx r a t,E9 r p:=fun p hp=>by
  rcases Gx.1 hp with⟨i,hi,rfl⟩ | ⟨j,hj,_,rfl⟩
  · exact(h.busT V A hi).1
  · exact(h.spT V hj).1
theorem EQ.pass {r:Af} {t:Ay} (h:EQ r t) (V:BU r) {a:Ao} (A:CR r a) {s:Nat} {q:Rg} (hq:q∈AA r a s):∃ p∈Cx r a t,∃ x,F8 ((r.legs.length:Int)+1) p s=some x∧q.lo≤x∧x≤q.hi:=by
  rcases HN.1 hq with⟨i,hi,h1,h2⟩ | ⟨j,hj,hs,h1,h2⟩
  · obtain⟨o,l1,l2⟩:=h.busT V A hi
    have o1:=(Kr Dv.low V A i hi).t
    rcases l1.at o1 s with⟨e,_⟩ | ⟨u,x,e1,e2,e3⟩
    · rw [e] at h1; cases h1
    · rcases l2.at o.t s with⟨e,_⟩ | ⟨x',v,f1,f2,f3⟩
      · rw [e] at e2; cases e2
      · rw [e1] at h1; cases h1
        rw [f2] at h2; cases h2
        rw [f1] at e2; cases e2
        exact⟨_,Gx.2 (.inl ⟨i,hi,rfl⟩),_,f1,e3,f3⟩
  · obtain⟨o,l1,l2⟩:=h.spT V hj
    have o1:=(M4 Dv.low V j hj).t
    rcases l1.at o1 s with⟨e,_⟩ | ⟨u,x,e1,e2,e3⟩
    · rw [e] at h1; cases h1
    · rcases l2.at o.t s with⟨e,_⟩ | ⟨x',v,f1,f2,f3⟩
      · rw [e] at e2; cases e2
      · rw [e1] at h1; cases h1
        rw [f2] at h2; cases h2
        rw [f1] at e2; cases e2
        exact⟨_,Gx.2 (.inr ⟨j,hj,hs,rfl⟩),_,f1,e3,f3⟩
theorem FT {r:Af} (V:BU r) {a:Ao} {t:Ay} {s:Nat} (hs:s<r.legs.length+1) {y:Int}:y∈EP r a t s↔y=r.fr∨y=r.to_∨(∃ p∈Cx r a t,F8 ((r.legs.length:Int)+1) p s=some y)∧r.fr≤y∧y≤r.to_:=by
  have hl:=V.looked
  unfold EP
  rw [List.mem_cons,List.mem_cons,List.mem_filter,List.mem_map]
  refine or_congr Iff.rfl (or_congr Iff.rfl ?_)
  have key:∀ p:Bd×A9,(Fa (r.legs.length+1) p)[s]! = (F8 ((r.legs.length:Int)+1) p s).getD (-1):=fun p=>by
    rw [B6 _ _ (by unfold Fa; simp; omega)]
    unfold Fa
    rw [List.getElem_map,List.getElem_range]
    rfl
  constructor
  · rintro⟨⟨l,hl1,rfl⟩,hin⟩
    obtain⟨p,hp,rfl⟩:=List.mem_map.1 hl1
    unfold Ss at hin
    have hin:=of_decide_eq_true hin
    rw [key] at hin ⊢
    cases he:F8 ((r.legs.length:Int)+1) p s with
    | none=>rw [he] at hin; simp at hin; omega
    | some x=>rw [he] at hin; exact⟨⟨p,hp,he⟩,hin⟩
  · rintro⟨⟨p,hp,he⟩,hin⟩
    exact⟨⟨_,List.mem_map_of_mem hp,by rw [key,he]; rfl⟩,by unfold Ss; exact decide_eq_true hin⟩
theorem NG {r:Af} {t:Ay} (h:EQ r t) (V:BU r) {a:Ao} (A:CR r a) {s:Nat} (hs:s<r.legs.length+1) {l:List Int} (hl:l.Pairwise (· < ·)) (hm:∀ y,y∈l↔y∈EP r a t s):Hu l≤WR r.fr r.to_ (AA r a s):=by
  have hlk:=V.looked
  have hin:∀ y∈l,r.fr≤y∧y≤r.to_:=fun y hy=>by
    rcases(FT V hs).1 ((hm y).1 hy) with rfl | rfl | ⟨_,h⟩
    · omega
    · omega
    · exact h
  refine QC (Js _ _ _) hl fun x hx y hy hxy hno=>?_
  have hx':=hin x hx
  have hy':=hin y hy
  have h1:=R1 (l:=AA r a s) hx'.1 hx'.2
  have:y≤BI x r.to_ (AA r a s):=D3.2 ⟨hy'.2,fun q hq hqx=>by
    obtain⟨p,hp,z,hz,hz1,hz2⟩:=h.pass V A hq
    rcases Int.lt_or_le r.to_ z with hzt | hzt
    · omega
    · have hzm:z∈l:=(hm z).2 ((FT V hs).2 (.inr (.inr ⟨⟨p,hp,hz⟩,by omega,hzt⟩)))
      have:=hno z hzm
      omega⟩
  omega
def eE (b:Bool) (x:Rg):Int:=if b then x.hi else x.lo
def Cm (r:Af) (late:Nat→Bool):Ay:=⟨(List.range r.buses.length).map fun i=>eE (late i) (r.buses[i]!).tm,(List.range r.buses.length).map fun i=>eE (late i) r.turn,(List.range (r.buses.length+r.spares.length)).map fun i=>r.legs.map (eE (late i))⟩
theorem R2 (b:Bool):Dv (eE b):=by cases b; exact Dv.low; exact Dv.high
theorem Ed {β:Type} [Inhabited β] (f:Nat→β) (n i:Nat) (h:i<n):((List.range n).map f)[i]! = f i:=by
  rw [B6 _ _ (by simpa using h),List.getElem_map,List.getElem_range]
theorem Ku {r:Af} (V:BU r) (late:Nat→Bool):EQ r (Cm r late):=by
  refine⟨by simp [Cm],by simp [Cm],by simp [Cm],fun i hi=>?_,fun i hi=>?_,fun i hi=>?_,fun i hi k x d hx hd=>?_⟩
  · unfold Cm
    simp only []
    rw [Ed _ _ _ hi,B6 _ _ hi]
    have:=V.buses _ (List.getElem_mem hi)
    exact(R2 (late i)).le _ this.2.2.2.1
  · unfold Cm
    simp only []
    rw [Ed _ _ _ hi]
    exact(R2 (late i)).le _ V.turn.2.1
  · unfold Cm
    simp only []
    rw [Ed _ _ _ hi]
    simp
  · unfold Cm at hd
    simp only [] at hd
    rw [Ed _ _ _ hi,List.getElem?_map,hx] at hd
    cases hd
    exact(R2 (late i)).le _ (V.legs x (List.mem_of_getElem? hx)).2.1
theorem LI {r:Af} {a:Ao} {late:Nat→Bool} {i:Nat} (hi:i<r.buses.length):BT r a (Cm r late) i=D2 r a (eE (late i)) i:=by
  unfold BT D2 Cm
  simp only []
  rw [Ed _ _ _ hi,Ed _ _ _ hi,Ed _ _ _ (by omega)]
theorem M9 {r:Af} {late:Nat→Bool} {j:Nat} (hj:j<r.spares.length):((⟨(r.spares[j]!).stop,(r.spares[j]!).tm,-1⟩,⟨(Cm r late).legs[r.buses.length+j]!,0⟩):Bd×A9)=GG r (eE (late (r.buses.length+j))) j:=by
  unfold GG Cm
  simp only []
  rw [Ed _ _ _ (by omega)]
def Fb (r:Af) (a:Ao) (s:Nat) (m:Int) (i:Nat):Bool :=
  match F8 ((r.legs.length:Int)+1) (if i<r.buses.length then D2 r a Rg.lo i else GG r Rg.lo (i-r.buses.length)) s with
  | some x=>decide (m<x)
  | none=>false
theorem NH {r:Af} (V:BU r) {a:Ao} (A:CR r a) {s:Nat} (hs:s<r.legs.length+1) {m:Int} (hm:m∈CV r.fr r.to_ (AA r a s)) {late:Nat→Bool} (hlate:∀ i<r.buses.length+r.spares.length,(r.buses.length≤i→a.spares[i-r.buses.length]! = true)→late i=Fb r a s m i) {l:List Int} (hl:l.Pairwise (· < ·)) (hml:∀ y,y∈l↔y∈EP r a (Cm r late) s):BI m r.to_ (AA r a s)-m≤Hu l:=by
  have hlk:=V.looked
  have hmb:=FQ hlk.2.1 hm
  have hst:=HM m r.to_ (AA r a s)
  rcases Int.lt_or_le m (BI m r.to_ (AA r a s)) with hlt | hle
  · refine QD hl ?_ hlt ⟨r.to_,(hml _).2 ((FT V hs).2 (.inr (.inl rfl))),hst⟩ fun c hc hcc=>?_
    · -- the O9 is one of the truth
      refine(hml m).2 ((FT V hs).2 ?_)
      rcases List.mem_cons.1 hm with rfl | hm
      · exact .inl rfl
      · obtain⟨q,hq,rfl⟩:=List.mem_map.1 hm
        have hq:=(List.mem_filter.1 hq).1
        refine .inr (.inr ⟨?_,hmb⟩)
        rcases HN.1 hq with⟨i,hi,h1,h2⟩ | ⟨j,hj,hsp,h1,h2⟩
        · have e:late i=false:=by
            rw [hlate i (by omega) (fun h=>absurd h (by omega))]
            unfold Fb
            rw [if_pos hi,h1]
            exact decide_eq_false (by omega)
          exact⟨_,Gx.2 (.inl ⟨i,hi,rfl⟩),by rw [LI hi,e]; exact h1⟩
        · have e:late (r.buses.length+j)=false:=by
            rw [hlate _ (by omega) (fun _=>by rw [show r.buses.length+j-r.buses.length=j by omega]; exact hsp)]
            unfold Fb
            rw [if_neg (by omega),show r.buses.length+j-r.buses.length=j by omega,h1]
            exact decide_eq_false (by omega)
          exact⟨_,Gx.2 (.inr ⟨j,hj,hsp,rfl⟩),by rw [M9 hj,e]; exact h1⟩
    · rcases(FT V hs).1 ((hml c).1 hc) with rfl | rfl | ⟨⟨p,hp,hpc⟩,_⟩
      · omega
      · omega
      · rcases Gx.1 hp with⟨i,hi,rfl⟩ | ⟨j,hj,hsp,rfl⟩
        · rw [LI hi] at hpc
          have hli:=hlate i (by omega) (fun h=>absurd h (by omega))
          unfold Fb at hli
          rw [if_pos hi] at hli
          cases hb:late i with
          | false =>
            rw [hb] at hpc hli
            have hpc:F8 ((r.legs.length:Int)+1) (D2 r a Rg.lo i) s=some c:=hpc
            rw [hpc] at hli
            have:=of_decide_eq_false hli.symm
            omega
          | true =>
            rw [hb] at hpc hli
            have hpc:F8 ((r.legs.length:Int)+1) (D2 r a Rg.hi i) s=some c:=hpc
            cases hlo:F8 ((r.legs.length:Int)+1) (D2 r a Rg.lo i) s with
            | none=>rw [hlo] at hli; cases hli
            | some x =>
              rw [hlo] at hli
              have hx:=of_decide_eq_true hli.symm
              have:=(D3.1 (Int.le_refl (BI m r.to_ (AA r a s)))).2 ⟨x,c⟩ (HN.2 (.inl ⟨i,hi,hlo,hpc⟩)) hx
              simp only [] at this
              omega
        · rw [M9 hj] at hpc
          have hli:=hlate (r.buses.length+j) (by omega) (fun _=>by rw [show r.buses.length+j-r.buses.length=j by omega]; exact hsp)
          unfold Fb at hli
          rw [if_neg (by omega),show r.buses.length+j-r.buses.length=j by omega] at hli
          cases hb:late (r.buses.length+j) with
          | false =>
            rw [hb] at hpc hli
            have hpc:F8 ((r.legs.length:Int)+1) (GG r Rg.lo j) s=some c:=hpc
            rw [hpc] at hli
            have:=of_decide_eq_false hli.symm
            omega
          | true =>
            rw [hb] at hpc hli
            have hpc:F8 ((r.legs.length:Int)+1) (GG r Rg.hi j) s=some c:=hpc
            cases hlo:F8 ((r.legs.length:Int)+1) (GG r Rg.lo j) s with
            | none=>rw [hlo] at hli; cases hli
            | some x =>
              rw [hlo] at hli
              have hx:=of_decide_eq_true hli.symm
              have:=(D3.1 (Int.le_refl (BI m r.to_ (AA r a s)))).2 ⟨x,c⟩ (HN.2 (.inr ⟨j,hj,hsp,hlo,hpc⟩)) hx
              simp only [] at this
              omega
  · have:=GN l
    omega
end Go.Proofs.Ytokchpjijlebiaa
namespace Go.Proofs.Ytokchpjijlebiaa
open Go Go.RowKit
theorem St (i:Nat) (h:i≤1000):IntKind.u64.wrap (i:Int)=(i:Int):=by
  simp [IntKind.wrap,IntKind.bits,IntKind.signed]; omega
def Lm (L i:Nat):Bool:=decide (L / 2 ^ i % 2=1)
theorem R3 (L i:Nat) (h:i≤20):((Int.tmod (Int.fdiv (L:Int) (2 ^ (min (IntKind.u64.wrap (i:Int)).toNat 64))) 2) == 1)=Lm L i:=by
  rw [St i (by omega),Int.toNat_natCast,Nat.min_eq_left (by omega)]
  have e1:((2:Int) ^ i)=((2 ^ i:Nat):Int):=by simp
  rw [e1]
  have e2:Int.fdiv (L:Int) ((2 ^ i:Nat):Int)=((L / 2 ^ i:Nat):Int):=by
    rw [Int.fdiv_eq_ediv_of_nonneg _ (Int.natCast_nonneg _)]; rfl
  rw [e2]
  have e3:Int.tmod ((L / 2 ^ i:Nat):Int) 2=((L / 2 ^ i % 2:Nat):Int):=rfl
  rw [e3]
  unfold Lm
  by_cases hb:L / 2 ^ i % 2=1
  · rw [hb]; rfl
  · rw [decide_eq_false hb,beq_eq_false_iff_ne]
    omega
theorem MA:∀ (k:Nat)(late:Nat→Bool),∃ N<2 ^ k,∀ i<k,Lm N i=late i
  | 0,_=>⟨0,by simp,fun i h=>absurd h (Nat.not_lt_zero _)⟩
  | k+1,late=>by
    obtain⟨N,hN,hb⟩:=MA k fun i=>late (i+1)
    refine⟨2*N+(if late 0 then 1 else 0),by rw [Nat.pow_succ]; split <;> omega,fun i hi=>?_⟩
    unfold Lm
    cases i with
    | zero =>
      rw [Nat.pow_zero,Nat.div_one]
      cases late 0 <;> simp <;> omega
    | succ i =>
      have:=hb i (by omega)
      unfold Lm at this
      rw [Nat.pow_succ,Nat.mul_comm (2 ^ i) 2,← Nat.div_div_eq_div_mul,show(2*N+(if late 0 then 1 else 0)) / 2=N by split <;> omega]
      exact this
theorem JS (n:Nat) (x:Rg) (b:Bool):HO n x b=some (eE b x):=by
  unfold HO eE
  cases b <;> rfl
theorem Pj (r:Af) (hb:r.legs.length≤20) (L i:Nat) (hi:i≤20):∀ (n j:Nat)(acc:List Int),r.legs.length<n+j→j≤r.legs.length→acc.length≤j→Eg n r (L:Int) (i:Int) acc (j:Int)=some (acc++(r.legs.drop j).map (eE (Lm L i)))
  | 0,j,acc,h,hj,_=>by omega
  | n+1,j,acc,h,hj,ha=>by
    rw [Eg,BN]
    by_cases hx:j<r.legs.length
    · simp only [hx,decide_true,cond_true]
      rw [AI _ _ hx,Option.bind_some,R3 L i hi,JS,Option.bind_some,DH _ _ (by simp; omega),Option.bind_some,De j (by omega),Pj r hb L i hi n (j+1) _ (by omega) (by omega) (by simp; omega),AT hx]
      simp only [List.map_cons,List.append_assoc]
      rfl
    · have:j=r.legs.length:=by omega
      simp [this]
theorem MB (r:Af) (V:BU r) (L:Nat):∀ (n i:Nat)(x y:List Int)(z:List (List Int)),r.buses.length+r.spares.length+30<n+i→i≤r.buses.length+r.spares.length→x.length≤i→y.length≤i→z.length≤i →
    Dx n r (L:Int) x y z (i:Int)=some (x++((List.range r.buses.length).drop i).map (fun i=>eE (Lm L i) (r.buses[i]!).tm),y++((List.range r.buses.length).drop i).map (fun i=>eE (Lm L i) r.turn),z++((List.range (r.buses.length+r.spares.length)).drop i).map (fun i=>r.legs.map (eE (Lm L i))))
  | 0,i,x,y,z,h,hi,_,_,_=>by omega
  | n+1,i,x,y,z,h,hi,h1,h2,h3=>by
    have:=V.nb
    have:=V.ns
    have:=V.nl
    rw [Dx,GF (x:=((r.buses.length:Nat):Int)+((r.spares.length:Nat):Int)) (by omega) (by omega)]
    by_cases hx:i<r.buses.length+r.spares.length
    · have q6:i<(List.range (r.buses.length+r.spares.length)).length:=by simpa using hx
      have hn:SG (IntKind.u64.wrap (i:Int))=some ():=by rw [St i (by omega)]; unfold SG; rw [if_neg (by omega)]
      have e2:=Pj r (by omega) L i (by omega) n 0 [] (by omega) (by omega) (by simp)
      rw [Int.natCast_zero,List.nil_append,List.drop_zero] at e2
      rw [decide_eq_true (by omega),cond_true,hn,Option.bind_some,e2,Option.bind_some,DH _ _ (by simp; omega),Option.bind_some]
      by_cases hib:i<r.buses.length
      · have q7:i<(List.range r.buses.length).length:=by simpa using hib
        rw [decide_eq_true (by omega),cond_true,AI _ _ hib,Option.bind_some,R3 L i (by omega),JS,Option.bind_some,DH _ _ (by simp; omega),Option.bind_some,JS,Option.bind_some,DH _ _ (by simp; omega),Option.bind_some]
        rw [De i (by omega),MB r V L n (i+1) _ _ _ (by omega) (by omega) (by simp; omega) (by simp; omega) (by simp; omega),AT q6,AT q7]
        simp only [List.getElem_range,List.map_cons,List.append_assoc,B6 _ _ hib]
        rfl
      · have hd:(List.range r.buses.length).drop i=[]:=List.drop_eq_nil_of_le (by simp; omega)
        have hd2:(List.range r.buses.length).drop (i+1)=[]:=List.drop_eq_nil_of_le (by simp; omega)
        rw [decide_eq_false (by omega),cond_false,De i (by omega),MB r V L n (i+1) _ _ _ (by omega) (by omega) (by omega) (by omega) (by simp; omega),AT q6,hd,hd2]
        simp only [List.getElem_range,List.map_cons,List.append_assoc]
        rfl
    · have hd:(List.range r.buses.length).drop i=[]:=List.drop_eq_nil_of_le (by simp; omega)
      have hd2:(List.range (r.buses.length+r.spares.length)).drop i=[]:=List.drop_eq_nil_of_le (by simp; omega)
      rw [decide_eq_false (by omega),cond_false,hd,hd2]
      simp
theorem Pk (n:Nat) (r:Af) (V:BU r) (L:Nat) (hn:50≤n):IB n r (L:Int)=some (Cm r (Lm L)):=by
  have:=V.nb
  have:=V.ns
  have e:=MB r V L n 0 [] [] [] (by omega) (by omega) (by simp) (by simp) (by simp)
  rw [Int.natCast_zero] at e
  unfold IB
  rw [e,Option.bind_some]
  simp only [List.drop_zero,List.nil_append]
  rfl
theorem LJ (r:Af) (a:Ao) (V:BU r) (A:CR r a) (s:Nat) (hs:s<r.legs.length+1):∀ (j n i:Nat)(acc:Int),i+j=2 ^ (r.buses.length+r.spares.length)→j+100<n→n≤900→acc≤WR r.fr r.to_ (AA r a s) →
    ∃ R,DA n r a (s:Int) (i:Int) acc=some R∧acc≤R∧R≤WR r.fr r.to_ (AA r a s)∧∀ N m,i≤N→N<2 ^ (r.buses.length+r.spares.length)→m∈CV r.fr r.to_ (AA r a s)→(∀ k<r.buses.length+r.spares.length,Lm N k=Fb r a s m k)→BI m r.to_ (AA r a s)-m≤R
  | j,0,i,acc,_,h,_,_=>by omega
  | j,n+1,i,acc,hij,hn,hn9,hacc=>by
    have hnb:=V.nb
    have hns:=V.ns
    have hp:2 ^ (r.buses.length+r.spares.length)≤64:=by
      calc 2 ^ (r.buses.length+r.spares.length)≤2 ^ 6:=Nat.pow_le_pow_right (by decide) (by omega)
        _=64:=by decide
    have ew:IntKind.i64.wrap (((r.buses.length:Nat):Int)+((r.spares.length:Nat):Int))=((r.buses.length+r.spares.length:Nat):Int):=by rw [GF (by omega) (by omega)]; omega
    have e2:IntKind.i64.wrap (1*2 ^ (min ((IntKind.u64.wrap ((r.buses.length+r.spares.length:Nat):Int)):Int).toNat 64))=((2 ^ (r.buses.length+r.spares.length):Nat):Int):=by
      rw [St _ (by omega),Int.toNat_natCast,Nat.min_eq_left (by omega),Int.one_mul,show((2:Int) ^ (r.buses.length+r.spares.length))=((2 ^ (r.buses.length+r.spares.length):Nat):Int) by simp,GF (by omega) (by omega)]
    have hng:SG (IntKind.u64.wrap ((r.buses.length+r.spares.length:Nat):Int))=some ():=by rw [St _ (by omega)]; unfold SG; rw [if_neg (by omega)]
    rw [DA,ew,hng,Option.bind_some,e2]
    cases j with
    | zero =>
      rw [decide_eq_false (by omega),cond_false]
      exact⟨acc,rfl,Int.le_refl _,hacc,fun N m h1 h2=>by omega⟩
    | succ j =>
      rw [decide_eq_true (by omega),cond_true,Pk n r V i (by omega),Option.bind_some]
      have hf:=Ku V (Lm i)
      obtain⟨l,g1,g2,g3⟩:=M8 n r a (Cm r (Lm i)) V (hf.sized V A) (hf.ok V A) s hs (by omega) (by omega)
      have hle:=NG hf V A hs g2 g3
      rw [g1,Option.bind_some,De i (by omega)]
      obtain⟨R,r1,r2,r3,r4⟩:=LJ r a V A s hs j n (i+1) (if Hu l>acc then Hu l else acc) (by omega) (by omega) (by omega) (by split <;> omega)
      refine⟨R,r1,by split at r2 <;> omega,r3,fun N m h1 h2 hm hb=>?_⟩
      rcases Nat.lt_or_ge i N with h | h
      · exact r4 N m h h2 hm hb
      · have:N=i:=by omega
        subst this
        have:=NH V A hs hm (fun i hi _=>hb i hi) g2 g3
        split at r2 <;> omega
theorem Ow (n:Nat) (r:Af) (a:Ao) (V:BU r) (A:CR r a) (s:Nat) (hs:s<r.legs.length+1) (hn:170≤n) (hn2:n≤900):H0 n r a (s:Int)=some (WR r.fr r.to_ (AA r a s)):=by
  have hnb:=V.nb
  have hns:=V.ns
  have hp:2 ^ (r.buses.length+r.spares.length)≤64:=by
    calc 2 ^ (r.buses.length+r.spares.length)≤2 ^ 6:=Nat.pow_le_pow_right (by decide) (by omega)
      _=64:=by decide
  obtain⟨R,r1,r2,r3,r4⟩:=LJ r a V A s hs (2 ^ (r.buses.length+r.spares.length)) n 0 0 (by omega) (by omega) hn2 (Js _ _ _)
  rw [Int.natCast_zero] at r1
  unfold H0
  rw [r1,Option.bind_some,Option.some.injEq]
  apply Int.le_antisymm r3
  refine Ph.2 ⟨r2,fun m hm=>?_⟩
  obtain⟨N,hN,hb⟩:=MA (r.buses.length+r.spares.length) (Fb r a s m)
  exact r4 N m (Nat.zero_le _) hN hm hb
end Go.Proofs.Ytokchpjijlebiaa
namespace Go.Proofs.Ytokchpjijlebiaa
open Go Go.RowKit
end Go.Proofs.Ytokchpjijlebiaa
namespace Go.Proofs.Ytokchpjijlebiaa
open Go Go.RowKit
theorem NI:∀ {x y z:List Int},Rt x y=true→Rt y z=true→Rt x z=true
  | [],y,z,h,_=>by simp [Rt] at h
  | x::xs,[],z,h,_=>by simp [Rt] at h
  | x::xs,y::ys,[],_,h=>by simp [Rt] at h
  | x::xs,y::ys,z::zs,h1,h2=>by
    rw [Rt] at h1 h2 ⊢
    by_cases e:x=y
    · subst e
      rw [if_pos rfl] at h1
      by_cases e2:x=z
      · rw [if_pos e2] at h2 ⊢
        exact NI h1 h2
      · rw [if_neg e2] at h2 ⊢
        exact h2
    · rw [if_neg e] at h1
      have h3:=of_decide_eq_true h1
      by_cases e2:y=z
      · subst e2
        rw [if_neg e]; exact h1
      · rw [if_neg e2] at h2
        have h4:=of_decide_eq_true h2
        rw [if_neg (by omega)]
        exact decide_eq_true (by omega)
theorem I5 (a b:Ao):FM a b=true↔Ny a<Ny b∨(Ny a=Ny b∧(Nz a<Nz b∨(Nz a=Nz b∧Rt (enc a) (enc b)=true))):=by
  unfold FM
  by_cases e:Ny a=Ny b
  · rw [if_pos e]
    by_cases e2:Nz a=Nz b
    · rw [if_pos e2]
      constructor
      · exact fun h=>.inr ⟨e,.inr ⟨e2,h⟩⟩
      · rintro(h | ⟨_,h | ⟨_,h⟩⟩)
        · omega
        · omega
        · exact h
    · rw [if_neg e2,decide_eq_true_eq]
      constructor
      · exact fun h=>.inr ⟨e,.inl h⟩
      · rintro(h | ⟨_,h | ⟨h,_⟩⟩)
        · omega
        · exact h
        · omega
  · rw [if_neg e,decide_eq_true_eq]
    constructor
    · exact fun h=>.inl h
    · rintro(h | ⟨h,_⟩)
      · exact h
      · omega
theorem N0 {a b c:Ao} (h1:FM a b=true) (h2:FM b c=true):FM a c=true:=by
  rw [I5] at h1 h2 ⊢
  rcases h1 with h1 | ⟨e1,h1 | ⟨f1,h1⟩⟩ <;> rcases h2 with h2 | ⟨e2,h2 | ⟨f2,h2⟩⟩
  · exact .inl (by omega)
  · exact .inl (by omega)
  · exact .inl (by omega)
  · exact .inl (by omega)
  · exact .inr ⟨by omega,.inl (by omega)⟩
  · exact .inr ⟨by omega,.inl (by omega)⟩
  · exact .inl (by omega)
  · exact .inr ⟨by omega,.inl (by omega)⟩
  · exact .inr ⟨by omega,.inr ⟨by omega,NI h1 h2⟩⟩
def SQ (r:Af) (l:List Ao) (i:Nat) (v w:Int):Prop :=
  ((i=0∧v=-1)∨((∀ k (h:k<l.length),k<i→v≤maxW r l[k])∧∃ k,∃ h:k<l.length,k<i∧v=maxW r l[k])) ∧
  ((w=-1∧∀ k (h:k<l.length),k<i→r.gap<maxW r l[k])∨∃ b,∃ h:b<l.length,b<i∧w=(b:Int)∧maxW r l[b]≤r.gap∧∀ k (h:k<l.length),k<i→maxW r l[k]≤r.gap→FM l[k] l[b]=false)
theorem SQ.step {r:Af} {l:List Ao} {i:Nat} {v w v' w':Int} (V:BU r) (hi:i<l.length) (h:SQ r l i v w)
    (hv:v' = if v<0∨maxW r l[i]<v then maxW r l[i] else v)
    (hw:(r.gap<maxW r l[i]∧w' = w)∨(maxW r l[i]≤r.gap∧((w<0∧w' = (i:Int))∨∃ b,∃ hb:b<l.length,w=(b:Int)∧((FM l[i] l[b]=true∧w' = (i:Int))∨(FM l[i] l[b]=false∧w' = w))))):SQ r l (i+1) v' w':=by
  obtain⟨h1,h2⟩:=h
  constructor
  · right
    have hm:=(M6 V l[i]).1
    rcases h1 with⟨h0,h1⟩ | ⟨h1,k0,hk0,hk1,hk2⟩
    · rw [if_pos (.inl (by omega))] at hv
      refine⟨fun k hk hk'=>?_,i,hi,by omega,hv⟩
      have:k=i:=by omega
      subst this
      omega
    · have hm2:=(M6 V l[k0]).1
      by_cases c:v<0∨maxW r l[i]<v
      · rw [if_pos c] at hv
        refine⟨fun k hk hk'=>?_,i,hi,by omega,hv⟩
        by_cases e:k=i
        · subst e; omega
        · have:=h1 k hk (by omega); omega
      · rw [if_neg c] at hv
        refine⟨fun k hk hk'=>?_,k0,hk0,by omega,by omega⟩
        by_cases e:k=i
        · subst e; omega
        · have:=h1 k hk (by omega); omega
  · rcases hw with⟨hg,hw⟩ | ⟨hg,hw⟩
    · rcases h2 with⟨h0,h2⟩ | ⟨b,hb,hbi,hbw,hbk,hbb⟩
      · refine .inl ⟨by omega,fun k hk hk'=>?_⟩
        by_cases e:k=i
        · subst e; exact hg
        · exact h2 k hk (by omega)
      · refine .inr ⟨b,hb,by omega,by omega,hbk,fun k hk hk' hk2=>?_⟩
        by_cases e:k=i
        · subst e; omega
        · exact hbb k hk (by omega) hk2
    · rcases hw with⟨hw0,hw⟩ | ⟨b',hb',hbw',hw⟩
      · refine .inr ⟨i,hi,by omega,hw,hg,fun k hk hk' hk2=>?_⟩
        by_cases e:k=i
        · subst e
          cases hc:FM l[k] l[k] with
          | false=>rfl
          | true =>
            rw [I5,JR] at hc
            rcases hc with hc | ⟨_,hc | ⟨_,hc⟩⟩
            · omega
            · omega
            · cases hc
        · rcases h2 with⟨h0,h2⟩ | ⟨b,hb,hbi,hbw,_⟩
          · have:=h2 k hk (by omega); omega
          · omega
      · rcases h2 with⟨h0,h2⟩ | ⟨b,hb,hbi,hbw,hbk,hbb⟩
        · omega
        · have:b=b':=by omega
          subst this
          rcases hw with⟨hc,hw⟩ | ⟨hc,hw⟩
          · refine .inr ⟨i,hi,by omega,hw,hg,fun k hk hk' hk2=>?_⟩
            cases hk3:FM l[k] l[i] with
            | false=>rfl
            | true =>
              by_cases e:k=i
              · subst e
                rw [I5,JR] at hk3
                rcases hk3 with hk3 | ⟨_,hk3 | ⟨_,hk3⟩⟩
                · omega
                · omega
                · cases hk3
              · have:=hbb k hk (by omega) hk2
                rw [N0 hk3 hc] at this
                exact this
          · refine .inr ⟨b,hb,by omega,by omega,hbk,fun k hk hk' hk2=>?_⟩
            by_cases e:k=i
            · subst e; exact hc
            · exact hbb k hk (by omega) hk2
end Go.Proofs.Ytokchpjijlebiaa
namespace Go.Proofs.Ytokchpjijlebiaa
open Go Go.RowKit
def Kv (r:Af) (sp:DQ Int Rg) (m:Int):Int:=IntKind.i64.wrap (A0 m r.to_ sp.l-m)
theorem Hd:∀ (n:Nat)(r:Af)(sp:DQ Int Rg)(s:List Int×List (Int×Rg))(i:Nat)(b x:Int)(K:(List Int×Int×Int)→Prop),(s.1.length-i)+sp.l.length+4≤n→s.1.length<2000000000→i≤s.1.length →
    (∀ b',(b' = b∧(s.1.drop i).foldl (fun b m=>max b (Kv r sp m)) x=x)∨(b'∈s.1∧Kv r sp b' = (s.1.drop i).foldl (fun b m=>max b (Kv r sp m)) x)→K (s.1,b',(s.1.drop i).foldl (fun b m=>max b (Kv r sp m)) x))→AB n r sp s s.1 (i:Int) b x K
  | 0,_,_,_,_,_,_,_,h,_,_,_=>by omega
  | n+1,r,sp,s,i,b,x,K,h,hb,hi,hK=>by
    rw [AB]
    by_cases hx:i<s.1.length
    · rw [show decide ((i:Int)<((s.1.length:Nat):Int))=true by simpa using hx]
      have hw:IntKind.i64.wrap ((i:Int)+1)=((i+1:Nat):Int):=by
        rw [show((i+1:Nat):Int)=(i:Int)+1 by omega]
        simp only [IntKind.wrap]
        simp [IntKind.bits,IntKind.signed]; omega
      refine⟨s.1[i],by simp [Cd,hx],Cn _ _ _ _ _ (by omega) ?_⟩
      rw [List.drop_eq_getElem_cons hx] at hK
      simp only [List.foldl_cons] at hK
      by_cases hg:Kv r sp s.1[i]>x
      · have hg':IntKind.i64.wrap (A0 s.1[i] r.to_ sp.l-s.1[i])>x:=hg
        simp only [hg',decide_true,cond_true,hw]
        rw [show max x (Kv r sp s.1[i])=Kv r sp s.1[i] by omega] at hK
        refine Hd _ _ _ _ _ _ _ _ (by omega) hb (by omega) fun b' hb'=>hK b' ?_
        rcases hb' with⟨rfl,hf⟩ | hb'
        · exact .inr ⟨List.getElem_mem hx,hf.symm⟩
        · exact .inr hb'
      · have hg' : ¬ IntKind.i64.wrap (A0 s.1[i] r.to_ sp.l-s.1[i])>x:=hg
        simp only [hg',decide_false,cond_false,hw]
        rw [show max x (Kv r sp s.1[i])=x by omega] at hK
        exact Hd _ _ _ _ _ _ _ _ (by omega) hb (by omega) hK
    · obtain rfl:i=s.1.length:=by omega
      simp only [Int.lt_irrefl,decide_false,cond_false]
      have:=hK b (.inl ⟨rfl,by simp⟩)
      simpa using this
theorem Qi {n:Nat} {r:Af} {sp:DQ Int Rg} {Q:JU→Prop} (hn:2*sp.l.length+20≤n) (hs:sp.l.length<1000000)
    (H:∀ b F,F=(Bp r sp.l).foldl (fun b m=>max b (Kv r sp m)) 0→(b=r.fr∧F=0)∨(b∈Bp r sp.l∧Kv r sp b=F)→Q ⟨b,F⟩):C9 n r sp Q:=by
  refine Co _ _ _ _ _ (by omega) (by simp; omega) fun ms hm=>?_
  have hl:=hm.length_eq
  have hf:((sp.l.filter fun p=>decide (r.fr≤p.2.lo) && decide (p.2.lo≤r.to_)).map fun p=>p.2.lo).length≤sp.l.length:=by rw [List.length_map]; exact List.length_filter_le _ _
  simp only [List.length_append,List.length_cons,List.length_nil] at hl
  have hfold:ms.foldl (fun b m=>max b (Kv r sp m)) 0=(Bp r sp.l).foldl (fun b m=>max b (Kv r sp m)) 0:=hm.foldl_eq' (fun p _ q _ e=>by omega) _
  refine Hd n r sp (ms,[]) 0 _ _ _ (by simp only; omega) (by simp only; omega) (by simp) fun b' hb'=>?_
  simp only [List.drop_zero] at hb' ⊢
  rw [hfold] at hb' ⊢
  refine H b' _ rfl ?_
  rcases hb' with⟨h1,h2⟩ | ⟨h1,h2⟩
  · exact .inl ⟨h1,h2⟩
  · exact .inr ⟨hm.mem_iff.1 h1,h2⟩
end Go.Proofs.Ytokchpjijlebiaa
namespace Go.Proofs.Ytokchpjijlebiaa
open Go Go.RowKit
theorem MC (st:Int) (n:Nat) (k:Int):∀ (l:List ((Bd×A9)×(Bd×A9)))(i q:Nat),BJ (AX st n k i l) ((i+q:Nat):Int)=(l[q]?).bind fun p=>C6 st n p k
  | [],i,q=>rfl
  | p::r,i,0=>by
    unfold AX
    have hno:∀ (l:List ((Bd×A9)×(Bd×A9)))(j:Nat),i<j→BJ (AX st n k j l) (i:Int)=none:=by
      intro l
      induction l with
      | nil=>intro j _; rfl
      | cons p r ih =>
        intro j hj
        unfold AX
        cases C6 st n p k with
        | none=>exact ih (j+1) (by omega)
        | some x =>
          simp only [BJ]
          rw [if_neg (by omega)]
          exact ih (j+1) (by omega)
    cases h:C6 st n p k with
    | none=>simp only [Nat.add_zero,List.getElem?_cons_zero,Option.bind_some,h]; exact hno r (i+1) (by omega)
    | some x=>simp [BJ,h]
  | p::r,i,q+1=>by
    have IH:=MC st n k r (i+1) q
    rw [show i+1+q=i+(q+1) by omega] at IH
    unfold AX
    cases h:C6 st n p k with
    | none=>simpa using IH
    | some x =>
      simp only [BJ,List.getElem?_cons_succ]
      rw [if_neg (by omega)]
      exact IH
theorem Kw {β:Type} (c:Nat→Bool) (g:Nat→β):∀ (l:List Nat)(q j:Nat),l[q]? = some j→c j=true→(l.filterMap fun j=>if c j then some (g j) else none)[((l.take q).filter c).length]? = some (g j)
  | [],q,j,h,_=>by simp at h
  | x::l,0,j,h,hc=>by
    simp at h
    subst h
    simp [hc]
  | x::l,q+1,j,h,hc=>by
    have IH:=Kw c g l q j (by simpa using h) hc
    rw [List.take_succ_cons,List.filter_cons,List.filterMap_cons]
    cases hx:c x with
    | true=>simpa using IH
    | false=>simpa using IH
def DV (r:Af) (a:Ao) (i:Nat):Nat:=if i≤r.buses.length then i else r.buses.length+((List.range (i-r.buses.length)).filter fun j=>a.spares[j]!).length
theorem Re {r:Af} {a:Ao} {i:Nat} (h:i<r.buses.length):DV r a (i+1)=DV r a i+1:=by
  unfold DV; rw [if_pos (by omega),if_pos (by omega)]
theorem Pm {r:Af} {a:Ao} {i:Nat} (h:r.buses.length≤i):DV r a (i+1)=DV r a i+(if a.spares[i-r.buses.length]! = true then 1 else 0):=by
  unfold DV
  rw [if_neg (by omega),show i+1-r.buses.length=(i-r.buses.length)+1 by omega,List.range_succ,List.filter_append,List.length_append]
  have e:(List.filter (fun j=>a.spares[j]!) [i-r.buses.length]).length=if a.spares[i-r.buses.length]! = true then 1 else 0:=by
    rw [List.filter_cons]; split <;> rfl
  rw [e]
  by_cases h2:i≤r.buses.length
  · rw [if_pos h2,show i-r.buses.length=0 by omega]
    simp; omega
  · rw [if_neg h2]; omega
theorem Rf {r:Af} {a:Ao} {i:Nat} (h:i<r.buses.length):(CQ r a)[DV r a i]? = some (D2 r a Rg.lo i,D2 r a Rg.hi i):=by
  unfold DV CQ
  rw [if_pos (by omega),List.getElem?_append_left (by simpa using h),List.getElem?_map,List.getElem?_range h]; rfl
theorem Pn {r:Af} {a:Ao} {i:Nat} (h:r.buses.length≤i) (h2:i<r.buses.length+r.spares.length) (hs:a.spares[i-r.buses.length]! = true):(CQ r a)[DV r a i]? = some (GG r Rg.lo (i-r.buses.length),GG r Rg.hi (i-r.buses.length)):=by
  have e:DV r a i=r.buses.length+((List.range (i-r.buses.length)).filter fun j=>a.spares[j]!).length:=by
    unfold DV
    split
    · rw [show i-r.buses.length=0 by omega]; simp; omega
    · rfl
  unfold CQ
  rw [e,List.getElem?_append_right (by simp),List.length_map,List.length_range,Nat.add_sub_cancel_left]
  have:=Kw (fun j=>a.spares[j]!) (fun j=>(GG r Rg.lo j,GG r Rg.hi j)) (List.range r.spares.length) (i-r.buses.length) (i-r.buses.length) (List.getElem?_range (by omega)) hs
  rw [List.take_range,Nat.min_eq_left (by omega)] at this
  exact this
def Fy (r:Af) (a:Ao) (s:Nat) (m:Int) (i:Nat):Bool:=(decide (i<r.buses.length) || a.spares[i-r.buses.length]!) && Fb r a s m i
theorem Rh {r:Af} {a:Ao} (V:BU r) (A:CR r a) (s:Nat) (m:Int) {i:Nat} (hi:i<r.buses.length+r.spares.length) (hu:r.buses.length≤i→a.spares[i-r.buses.length]! = true) :
    ((E5 (AX ((r.legs.length:Int)+1) 40 (s:Int) 0 (CQ r a)) ((DV r a i:Nat):Int) (Rg.mk 0 0)).2 && decide ((E5 (AX ((r.legs.length:Int)+1) 40 (s:Int) 0 (CQ r a)) ((DV r a i:Nat):Int) (Rg.mk 0 0)).1.lo>m))=Fy r a s m i:=by
  have h0:=MC ((r.legs.length:Int)+1) 40 (s:Int) (CQ r a) 0 (DV r a i)
  rw [Nat.zero_add] at h0
  have key:∀ p,(CQ r a)[DV r a i]? = some p→p.1=(if i<r.buses.length then D2 r a Rg.lo i else GG r Rg.lo (i-r.buses.length))→((E5 (AX ((r.legs.length:Int)+1) 40 (s:Int) 0 (CQ r a)) ((DV r a i:Nat):Int) (Rg.mk 0 0)).2 && decide ((E5 (AX ((r.legs.length:Int)+1) 40 (s:Int) 0 (CQ r a)) ((DV r a i:Nat):Int) (Rg.mk 0 0)).1.lo>m))=Fb r a s m i:=by
    intro p hp he
    rw [hp,Option.bind_some] at h0
    unfold Fb E5
    rw [← he,h0]
    rcases Lk V (List.mem_of_getElem? hp) 40 (s:Int) A with⟨h1,h2⟩ | ⟨x,y,h1,h2,_⟩
    · have e1:C6 ((r.legs.length:Int)+1) 40 p (s:Int)=none:=by unfold C6; rw [h1,h2]
      have e2:F8 ((r.legs.length:Int)+1) p.1 (s:Int)=none:=h1
      rw [e1,e2]; rfl
    · have e1:C6 ((r.legs.length:Int)+1) 40 p (s:Int)=some ⟨x,y⟩:=by unfold C6; rw [h1,h2]
      have e2:F8 ((r.legs.length:Int)+1) p.1 (s:Int)=some x:=h1
      rw [e1,e2]; rfl
  unfold Fy
  by_cases hb:i<r.buses.length
  · rw [key _ (Rf hb) (by rw [if_pos hb]),decide_eq_true hb]; rfl
  · rw [key _ (Pn (by omega) hi (hu (by omega))) (by rw [if_neg hb]),hu (by omega),Bool.or_true,Bool.true_and]
def Dw (r:Af) (late:Nat→Bool) (i:Nat):Ay:=Cm r fun k=>decide (k<i) && late k
theorem Ln {β:Type} (f:Nat→β) (N i:Nat) (v:β):((List.range N).map f).set i v=(List.range N).map fun k=>if k=i then v else f k:=by
  apply List.ext_getElem
  · simp
  · intro k h1 h2
    rw [List.getElem_set]
    simp only [List.getElem_map,List.getElem_range]
    by_cases h:i=k
    · rw [if_pos h,if_pos h.symm]
    · rw [if_neg h,if_neg (fun e=>h e.symm)]
theorem Qj (r:Af) (late:Nat→Bool):Dw r late 0=Cw r Rg.lo:=by
  unfold Dw Cm Cw
  have e:∀ k:Nat,(decide (k<0) && late k)=false:=fun k=>by simp
  simp only [e,eE,Bool.false_eq_true,if_false]
  congr 1
  · apply List.ext_getElem
    · simp
    · intro k h1 h2
      have hk:k<r.buses.length:=by simpa using h1
      simp only [List.getElem_map,List.getElem_range,B6 _ _ hk]
  · apply List.ext_getElem
    · simp
    · intro k h1 h2
      simp only [List.getElem_map]
  · apply List.ext_getElem
    · simp
    · intro k h1 h2
      simp only [List.getElem_map,List.getElem_replicate]; rfl
theorem JT {r:Af} {late:Nat→Bool} {i:Nat} (h:late i=false):Dw r late (i+1)=Dw r late i:=by
  unfold Dw
  congr 1
  funext k
  by_cases hk:k=i
  · subst hk; simp [h]
  · have:decide (k<i+1)=decide (k<i):=by rw [Bool.eq_iff_iff]; simp; omega
    rw [this]
theorem Qk {late:Nat→Bool} {i:Nat} (h:late i=true) (k:Nat):(decide (k<i+1) && late k)=(if k=i then true else(decide (k<i) && late k)):=by
  by_cases hk:k=i
  · subst hk; simp [h]
  · rw [if_neg hk]
    have:decide (k<i+1)=decide (k<i):=by rw [Bool.eq_iff_iff]; simp; omega
    rw [this]
theorem MD {r:Af} {late:Nat→Bool} {i:Nat} (h:late i=true):(Dw r late (i+1)).legs=(Dw r late i).legs.set i (r.legs.map Rg.hi):=by
  show(List.range _).map _=((List.range _).map _).set i _
  rw [Ln]
  congr 1
  funext k
  simp only [Qk h]
  by_cases hk:k=i
  · rw [if_pos hk,if_pos hk]; rfl
  · rw [if_neg hk,if_neg hk]
theorem R4 {r:Af} {late:Nat→Bool} {i:Nat} (h:late i=true):(Dw r late (i+1)).tm=(Dw r late i).tm.set i (r.buses[i]!).tm.hi∧(Dw r late (i+1)).turns=(Dw r late i).turns.set i r.turn.hi:=by
  constructor
  · show(List.range _).map _=((List.range _).map _).set i _
    rw [Ln]
    congr 1
    funext k
    simp only [Qk h]
    by_cases hk:k=i
    · subst hk; rw [if_pos rfl,if_pos rfl]; rfl
    · rw [if_neg hk,if_neg hk]
  · show(List.range _).map _=((List.range _).map _).set i _
    rw [Ln]
    congr 1
    funext k
    simp only [Qk h]
    by_cases hk:k=i
    · rw [if_pos hk,if_pos hk]; rfl
    · rw [if_neg hk,if_neg hk]
theorem Ri {r:Af} {late:Nat→Bool} {i:Nat} (hi:r.buses.length≤i):(Dw r late (i+1)).tm=(Dw r late i).tm∧(Dw r late (i+1)).turns=(Dw r late i).turns:=by
  have e:∀ k∈List.range r.buses.length,(decide (k<i+1) && late k)=(decide (k<i) && late k):=fun k hk=>by
    have:=List.mem_range.1 hk
    rw [show decide (k<i+1)=decide (k<i) by rw [Bool.eq_iff_iff]; simp; omega]
  constructor
  · exact List.map_congr_left fun k hk=>by simp only [e k hk]
  · exact List.map_congr_left fun k hk=>by simp only [e k hk]
theorem ME {r:Af} {a:Ao} (V:BU r) (A:CR r a) (s:Nat) (x41:JU) (K:(List Int×List Int×List (List Int))→Prop)
    (hK:K ((Dw r (Fy r a s x41.fr) (r.buses.length+r.spares.length)).tm,(Dw r (Fy r a s x41.fr) (r.buses.length+r.spares.length)).turns,(Dw r (Fy r a s x41.fr) (r.buses.length+r.spares.length)).legs)) :
    ∀ (n i:Nat),r.buses.length+r.spares.length<n+i→i≤r.buses.length+r.spares.length →
    Bk n r a (DQ.mk (AX ((r.legs.length:Int)+1) 40 (s:Int) 0 (CQ r a))) x41 (Cw r Rg.hi) (Dw r (Fy r a s x41.fr) i).tm (Dw r (Fy r a s x41.fr) i).turns (Dw r (Fy r a s x41.fr) i).legs (i:Int) ((DV r a i:Nat):Int) K
  | 0,i,h,hi=>by omega
  | n+1,i,h,hi=>by
    have hnb:=V.nb
    have hns:=V.ns
    have hsl:=A.spares
    rw [Bk,GF (x:=((r.buses.length:Nat):Int)+((r.spares.length:Nat):Int)) (by omega) (by omega)]
    by_cases hx:i<r.buses.length+r.spares.length
    · rw [show decide ((i:Int)<((r.buses.length:Nat):Int)+((r.spares.length:Nat):Int))=true from decide_eq_true (by omega),cond_true]
      have IH:=ME V A s x41 K hK n (i+1) (by omega) (by omega)
      have hnum:DV r a i≤i:=by
        unfold DV
        split
        · omega
        · have:=List.length_filter_le (fun j=>a.spares[j]!) (List.range (i-r.buses.length))
          rw [List.length_range] at this; omega
      have hw1:IntKind.i64.wrap (((DV r a i:Nat):Int)+1)=((DV r a i+1:Nat):Int):=De _ (by omega)
      have hl:=Rh V A s x41.fr hx
      have hml:(Dw r (Fy r a s x41.fr) i).legs.length=r.buses.length+r.spares.length:=by show((List.range _).map _).length=_; simp
      have hmt:(Dw r (Fy r a s x41.fr) i).tm.length=r.buses.length:=by show((List.range _).map _).length=_; simp
      have hmu:(Dw r (Fy r a s x41.fr) i).turns.length=r.buses.length:=by show((List.range _).map _).length=_; simp
      have hel:Cd (Cw r Rg.hi).legs (i:Int)=some (r.legs.map Rg.hi):=by
        rw [Qc]
        show(List.replicate _ _)[i]? = _
        rw [List.getElem?_replicate,if_pos hx]
      rw [De i (by omega)]
      have o2:∀ (z:Rg×Bool),(bif z.2 then some (decide (z.1.lo>x41.fr)) else some false:Option Bool)=some (z.2 && decide (z.1.lo>x41.fr)):=fun z=>by cases z.2 <;> rfl
      by_cases hb:i<r.buses.length
      · have hnx:DV r a (i+1)=DV r a i+1:=Re hb
        have hl:=hl fun h=>absurd h (by omega)
        rw [show decide ((i:Int)<((r.buses.length:Nat):Int))=true from decide_eq_true (by omega)]
        refine⟨false,rfl,?_⟩
        simp only [cond_false,cond_true,hw1]
        refine⟨_,rfl,_,o2 _,?_⟩
        rw [hl]
        rw [hnx] at IH
        cases hlu:Fy r a s x41.fr i with
        | true =>
          rw [cond_true]
          obtain⟨q1,q2⟩:=R4 hlu
          rw [MD hlu,q1,q2] at IH
          have e1:Cd (Cw r Rg.hi).tm (i:Int)=some (r.buses[i]!).tm.hi:=by
            rw [Qc]
            show(r.buses.map fun b=>b.tm.hi)[i]? = _
            rw [List.getElem?_map,List.getElem?_eq_getElem hb,B6 _ _ hb]; rfl
          have e2:Cd (Cw r Rg.hi).turns (i:Int)=some r.turn.hi:=by
            rw [Qc]
            show(r.buses.map fun _=>r.turn.hi)[i]? = _
            rw [List.getElem?_map,List.getElem?_eq_getElem hb]; rfl
          exact⟨_,hel,_,AI _ _ (by omega),_,Ms _ _ _ (by omega),_,e1,_,e2,_,AI _ _ (by omega),_,Ms _ _ _ (by omega),_,AI _ _ (by omega),_,Ms _ _ _ (by omega),IH⟩
        | false =>
          rw [JT hlu] at IH
          rw [cond_false]; exact IH
      · have hq:i-r.buses.length<a.spares.length:=by omega
        have hw2:IntKind.i64.wrap ((i:Int)-((r.buses.length:Nat):Int))=((i-r.buses.length:Nat):Int):=by rw [GF (by omega) (by omega)]; omega
        have hnx:=Pm (a:=a) (show r.buses.length≤i by omega)
        rw [show decide ((i:Int)<((r.buses.length:Nat):Int))=false from decide_eq_false (by omega)]
        refine⟨!a.spares[i-r.buses.length]!,by rw [Bool.not_false,cond_true,hw2,AI _ _ hq,B6 _ _ hq]; rfl,?_⟩
        simp only [cond_false,hw1]
        obtain⟨q1,q2⟩:=Ri (r:=r) (late:=Fy r a s x41.fr) (show r.buses.length≤i by omega)
        rw [q1,q2] at IH
        cases hsp:a.spares[i-r.buses.length]! with
        | false =>
          have hlu:Fy r a s x41.fr i=false:=by unfold Fy; rw [decide_eq_false hb,hsp]; rfl
          rw [hsp] at hnx
          simp only [Bool.false_eq_true,if_false,Nat.add_zero] at hnx
          rw [JT hlu,hnx] at IH
          exact IH
        | true =>
          rw [hsp] at hnx
          simp only [if_true] at hnx
          have hl:=hl fun _=>hsp
          simp only [Bool.not_true,cond_false]
          refine⟨_,rfl,_,o2 _,?_⟩
          rw [hl]
          rw [hnx] at IH
          cases hlu:Fy r a s x41.fr i with
          | true =>
            rw [cond_true]
            rw [MD hlu] at IH
            exact⟨_,hel,_,AI _ _ (by omega),_,Ms _ _ _ (by omega),IH⟩
          | false =>
            rw [JT hlu] at IH
            rw [cond_false]; exact IH
    · obtain rfl:i=r.buses.length+r.spares.length:=by omega
      rw [show decide (((r.buses.length+r.spares.length:Nat):Int)<((r.buses.length:Nat):Int)+((r.spares.length:Nat):Int))=false from decide_eq_false (by omega),cond_false]
      exact hK
theorem Rj (r:Af) (late:Nat→Bool):Dw r late (r.buses.length+r.spares.length)=Cm r late:=by
  unfold Dw Cm
  have e:∀ N≤r.buses.length+r.spares.length,∀ k∈List.range N,(decide (k<r.buses.length+r.spares.length) && late k)=late k:=fun N hN k hk=>by
    have:=List.mem_range.1 hk
    rw [decide_eq_true (by omega),Bool.true_and]
  congr 1
  · exact List.map_congr_left fun k hk=>by simp only [e _ (by omega) k hk]
  · exact List.map_congr_left fun k hk=>by simp only [e _ (by omega) k hk]
  · exact List.map_congr_left fun k hk=>by simp only [e _ (by omega) k hk]
theorem R5 {n:Nat} {r:Af} {a:Ao} (hF:CB r=0) (hA:G2 r a=true) (hn:120≤n) (hn2:n≤900) (s:Nat) (hs:s<r.legs.length+1) (Q:Ay×Int→Prop)
    (H:∀ m late,((m=r.fr∧WR r.fr r.to_ (AA r a s)=0)∨(m∈CV r.fr r.to_ (AA r a s)∧BI m r.to_ (AA r a s)-m=WR r.fr r.to_ (AA r a s))) →
      (∀ i<r.buses.length+r.spares.length,(r.buses.length≤i→a.spares[i-r.buses.length]! = true)→late i=Fb r a s m i)→Q (Cm r late,0)):CF n r a (s:Int) Q:=by
  have V:=My hF
  have A:=Li hA
  have hnl:=V.nl
  have hnb:=V.nb
  have hns:=V.ns
  have hlk:=V.looked
  unfold CF
  refine⟨_,Ot n r a (by omega) (by omega) (by omega) (by omega),?_⟩
  simp only [hF,ne_eq,not_true_eq_false,if_false,hA,if_true,bne_self_eq_false,cond_false]
  have hst:AL n r (s:Int)=some true:=by
    unfold AL
    rw [show AF n r=some ((r.legs.length:Int)+1) from by unfold AF; rw [GF (by omega) (by omega)],Option.bind_some,Gw,GF (by omega) (by omega)]
    simp; omega
  refine⟨_,hst,?_⟩
  simp only [Bool.not_true,cond_false]
  refine⟨_,Pg n r a V A (by omega) (by omega),?_⟩
  refine⟨DQ.mk (AX ((r.legs.length:Int)+1) 40 (s:Int) 0 (CQ r a)),by rw [Qc,List.getElem?_map,List.getElem?_range hs]; rfl,?_⟩
  have hsnd:(AX ((r.legs.length:Int)+1) 40 (s:Int) 0 (CQ r a)).map Prod.snd=AA r a s:=DM ..
  have hlen:(AX ((r.legs.length:Int)+1) 40 (s:Int) 0 (CQ r a)).length≤r.buses.length+r.spares.length:=by
    have h1:(AA r a s).length≤(CQ r a).length:=List.length_filterMap_le ..
    have h2:(CQ r a).length≤r.buses.length+r.spares.length:=by
      unfold CQ
      rw [List.length_append,List.length_map,List.length_range]
      have:=List.length_filterMap_le (fun j=>if a.spares[j]! then some (GG r Rg.lo j,GG r Rg.hi j) else none) (List.range r.spares.length)
      rw [List.length_range] at this; omega
    rw [← hsnd,List.length_map] at h1; omega
  have hmk:Bp r (AX ((r.legs.length:Int)+1) 40 (s:Int) 0 (CQ r a))=CV r.fr r.to_ (AA r a s):=by
    unfold Bp CV
    rw [← hsnd,List.filter_map,List.map_map]; rfl
  have hgap:∀ m∈CV r.fr r.to_ (AA r a s),Kv r (DQ.mk (AX ((r.legs.length:Int)+1) 40 (s:Int) 0 (CQ r a))) m=BI m r.to_ (AA r a s)-m:=fun m hm=>by
    have hmb:=FQ hlk.2.1 hm
    have hsb:=GL m (AA r a s) r.to_ (NA V A s) hmb.2
    unfold Kv
    rw [JQ,hsnd,GF (by omega) (by omega)]
  refine Qi (by simp only; omega) (by simp only; omega) fun b F hFe hbF=>?_
  have hFW:F=WR r.fr r.to_ (AA r a s):=by
    rw [hFe,hmk]
    exact I2 _ _ fun c x hx=>by rw [hgap x hx]
  refine⟨_,Mi n r Rg.lo (fun y0=>Al n y0) (fun x=>rfl) (by omega) (by omega) (by omega) (by omega),_,Mi n r Rg.hi (fun y0=>As n y0) (fun x=>rfl) (by omega) (by omega) (by omega) (by omega),?_⟩
  have hloop:=ME V A s ⟨b,F⟩ (fun s_209=>Q ((Ay.mk s_209.1 s_209.2.1 s_209.2.2),0)) (by
    rw [Rj]
    refine H b (Fy r a s b) ?_ fun i hi hu=>?_
    · rcases hbF with⟨h1,h2⟩ | ⟨h1,h2⟩
      · exact .inl ⟨h1,hFW.symm.trans h2⟩
      · rw [hmk] at h1
        exact .inr ⟨h1,by rw [← hgap b h1,h2,hFW]⟩
    · unfold Fy
      by_cases hb:i<r.buses.length
      · rw [decide_eq_true hb]; rfl
      · rw [hu (by omega),Bool.or_true,Bool.true_and]) n 0 (by omega) (by omega)
  rw [Qj] at hloop
  exact hloop
end Go.Proofs.Ytokchpjijlebiaa
namespace Go.Proofs.Ytokchpjijlebiaa
open Go Go.RowKit
theorem MF (t:Ay) (hb:t.legs.length≤20) (hl:∀ x∈t.legs,x.length≤20):∀ (n i:Nat)(acc:List (List Int)),t.legs.length<n+i→i≤t.legs.length→acc.length=i→Ef n t acc (i:Int)=some (acc++t.legs.drop i)
  | 0,i,acc,h,hi,_=>by omega
  | n+1,i,acc,h,hi,ha=>by
    rw [Ef,BN]
    by_cases hx:i<t.legs.length
    · have h20:=hl _ (List.getElem_mem hx)
      simp only [hx,decide_true,cond_true,AI _ _ hx,Option.bind_some,FO n _ (show(t.legs[i]).length≤1000 by omega)]
      rw [DH _ _ (by simp; omega)]
      simp only [Option.bind_some]
      rw [De i (by omega),MF t hb hl n (i+1) _ (by omega) (by omega) (by simp; omega),AT hx,List.append_assoc]
      rfl
    · have:i=t.legs.length:=by omega
      simp [this]
theorem Po (n:Nat) (t:Ay) (hn:30≤n) (h1:t.tm.length≤20) (h2:t.turns.length≤20) (hb:t.legs.length≤20) (hl:∀ x∈t.legs,x.length≤20):IA n t=some t:=by
  unfold IA
  have:=MF t hb hl n 0 [] (by omega) (by omega) rfl
  rw [show((0:Nat):Int)=0 from rfl] at this
  rw [FO n _ (by omega),FO n _ (by omega),this]; rfl
theorem MG {r:Af} {t:Ay} (T:EQ r t) (hb:r.buses.length≤20):∀ (n i:Nat),r.buses.length<n+i→i≤r.buses.length→Ei n r t (i:Int)=some (Ex.go ())
  | 0,i,h,hi=>by omega
  | n+1,i,h,hi=>by
    rw [Ei,BN]
    by_cases hx:i<r.buses.length
    · have h1:=T.tms i hx
      have h2:=T.tts i hx
      have hl1:=T.tm
      have hl2:=T.tt
      rw [B6 _ _ (show i<t.tm.length by omega),B6 _ _ hx] at h1
      rw [B6 _ _ (show i<t.turns.length by omega)] at h2
      simp only [hx,decide_true,cond_true,AI _ _ hx,AI t.tm i (by omega),AI t.turns i (by omega),Option.bind_some,DL,h1,h2,and_self,Bool.not_true,cond_false]
      rw [De i (by omega)]
      exact MG T hb n (i+1) (by omega) (by omega)
    · have:i=r.buses.length:=by omega
      simp [this]
theorem MH {r:Af} {t:Ay} (T:EQ r t) (hl:r.legs.length≤20) (i:Nat) (hi:i<r.buses.length+r.spares.length):∀ (n k:Nat),r.legs.length<n+k→k≤r.legs.length→Ej n r t (i:Int) (k:Int)=some (Ex.go ())
  | 0,k,h,hk=>by omega
  | n+1,k,h,hk=>by
    rw [Ej,BN]
    by_cases hx:k<r.legs.length
    · have hi2:i<t.legs.length:=by rw [T.legs]; exact hi
      have h3:=T.ll i hi
      have h4:=T.leg i hi k
      rw [B6 _ _ hi2] at h3 h4
      have h5:=h4 r.legs[k] t.legs[i][k] (List.getElem?_eq_getElem hx) (List.getElem?_eq_getElem (by omega))
      simp only [hx,decide_true,cond_true,AI _ _ hi2,AI t.legs[i] k (by omega),AI _ _ hx,Option.bind_some,DL,h5,and_self,Bool.not_true,cond_false]
      rw [De k (by omega)]
      exact MH T hl i hi n (k+1) (by omega) (by omega)
    · have:k=r.legs.length:=by omega
      simp [this]
theorem MI {r:Af} {t:Ay} (T:EQ r t) (hl:r.legs.length≤20) (hb:r.buses.length+r.spares.length≤20):∀ (n i:Nat),r.buses.length+r.spares.length+30<n+i→i≤r.buses.length+r.spares.length→Ek n r t (i:Int)=some (Ex.go ())
  | 0,i,h,hi=>by omega
  | n+1,i,h,hi=>by
    rw [Ek,BN]
    by_cases hx:i<t.legs.length
    · have hi':i<r.buses.length+r.spares.length:=by rw [← T.legs]; exact hx
      have h3:=T.ll i hi'
      rw [B6 _ _ hx] at h3
      have e:(((t.legs[i].length:Nat):Int) != ((r.legs.length:Nat):Int))=false:=by simp [h3]
      have h4:=MH T hl i hi' n 0 (by omega) (by omega)
      rw [show((0:Nat):Int)=0 from rfl] at h4
      simp only [hx,decide_true,cond_true,AI _ _ hx,Option.bind_some,e,cond_false,h4,Ex.bind]
      rw [De i (by omega)]
      exact MI T hl hb n (i+1) (by omega) (by omega)
    · have:i=t.legs.length:=by have:=T.legs; omega
      simp [this]
theorem Pp {r:Af} {t:Ay} (T:EQ r t) (V:BU r) (n:Nat) (hn:60≤n):IC n r t=some true:=by
  have:=V.nl
  have:=V.nb
  have:=V.ns
  unfold IC
  have h1:=MG T (by omega) n 0 (by omega) (by omega)
  have h2:=MI T (by omega) (by omega) n 0 (by omega) (by omega)
  rw [show((0:Nat):Int)=0 from rfl] at h1 h2
  rw [show(((t.tm.length:Nat):Int) != ((r.buses.length:Nat):Int))=false by simp [T.tm],show(((t.turns.length:Nat):Int) != ((r.buses.length:Nat):Int))=false by simp [T.tt],GF (x:=((r.buses.length:Nat):Int)+((r.spares.length:Nat):Int)) (by omega) (by omega),
    show(((t.legs.length:Nat):Int) != ((r.buses.length:Nat):Int)+((r.spares.length:Nat):Int))=false by simp [T.legs]]
  simp only [cond_false,Option.bind_some,h1,h2,Ex.bind]
theorem I6 {r:Af} {a:Ao} (V:BU r) (A:CR r a) (Q:Bool→Prop) (K:Unit→Prop) (hK:K ()):∀ (n i:Nat),r.legs.length+1+171<n+i→n≤900→i≤r.legs.length+1→Bq n r a Q (B7 r a,0) (i:Int) K
  | 0,i,h,_,hi=>by have:=V.nl; omega
  | n+1,i,h,h9,hi=>by
    have:=V.nl
    have hlen:(B7 r a).length=r.legs.length+1:=by simp [B7]
    rw [Bq,BN]
    by_cases hx:i<(B7 r a).length
    · simp only [hx,decide_true,cond_true]
      refine⟨_,AI _ _ hx,_,Ow n r a V A i (by omega) (by omega) (by omega),?_⟩
      have e:((B7 r a)[i] != WR r.fr r.to_ (AA r a i))=false:=by simp [B7]
      rw [e,cond_false,De i (by omega)]
      exact I6 V A Q K hK n (i+1) (by omega) (by omega) (by omega)
    · have:i=(B7 r a).length:=by omega
      simp only [hx,decide_false,cond_false]; exact hK
theorem Kx (n:Nat) (hn:250≤n) (hn2:n≤900) (hw:DN n=some true) (r:Af) (a:Ao) (stop:Int):DX n r a stop (fun x=>x=true):=by
  have aw:∃ x,DN n=some x∧x=true:=⟨true,hw,rfl⟩
  unfold DX
  -- how big
  by_cases hbig:r.legs.length≤10∧r.buses.length≤6∧r.spares.length≤4
  · have hT:G5 n r=some true:=by
      unfold G5
      rw [show decide (((r.legs.length:Nat):Int)≤10)=true from decide_eq_true (by omega),show decide (((r.buses.length:Nat):Int)≤6)=true from decide_eq_true (by omega),show decide (((r.spares.length:Nat):Int)≤4)=true from decide_eq_true (by omega)]; rfl
    refine⟨true,hT,?_⟩
    simp only [Bool.not_true,cond_false]
    have hS:∃ b,Hx n a (Ay.mk ([]:List Int) ([]:List Int) ([]:List (List Int)))=some b∧(b=true→a.holds.length≤8∧a.turns.length≤8∧a.spares.length≤8):=by
      obtain⟨m,rfl⟩:∃ m,n=m+1:=⟨n-1,by omega⟩
      have e1:E2 (m+1) (Ay.mk [] [] []) 0=some (Ex.go ()):=rfl
      unfold Hx
      rw [e1]
      simp only [Option.bind_some,Ex.bind]
      by_cases q1:a.holds.length≤8
      · rw [show decide (((a.holds.length:Nat):Int)≤8)=true from decide_eq_true (by omega)]
        by_cases q2:a.turns.length≤8
        · rw [show decide (((a.turns.length:Nat):Int)≤8)=true from decide_eq_true (by omega)]
          by_cases q3:a.spares.length≤8
          · rw [show decide (((a.spares.length:Nat):Int)≤8)=true from decide_eq_true (by omega)]
            exact⟨true,rfl,fun _=>⟨q1,q2,q3⟩⟩
          · rw [show decide (((a.spares.length:Nat):Int)≤8)=false from decide_eq_false (by omega)]
            exact⟨false,rfl,fun h=>by cases h⟩
        · rw [show decide (((a.turns.length:Nat):Int)≤8)=false from decide_eq_false (by omega)]
          exact⟨false,rfl,fun h=>by cases h⟩
      · rw [show decide (((a.holds.length:Nat):Int)≤8)=false from decide_eq_false (by omega)]
        exact⟨false,rfl,fun h=>by cases h⟩
    obtain⟨b,hb,hbb⟩:=hS
    refine⟨b,hb,?_⟩
    cases b with
    | false=>exact aw
    | true =>
      obtain⟨h1,h2,h3⟩:=hbb rfl
      simp only [Bool.not_true,cond_false]
      have hR:=Om n r (by omega) (by omega) (by omega) (by omega)
      have hA:=OY n a (by omega) (by omega) (by omega)
      have hac:=Ot n r a (by omega) (by omega) (by omega) (by omega)
      have hfa:Hy n r a=some (if CB r≠0 then CB r else if G2 r a then 0 else 2):=by
        unfold Hy
        rw [Oo n r (by omega) (by omega) (by omega) (by omega),M0 n r a (by omega) (by omega) (by omega),Option.bind_some]
        by_cases f0:CB r=0
        · rw [f0]; cases G2 r a <;> rfl
        · have:(CB r != 0)=true:=by simpa using f0
          simp [this,f0]
      refine⟨r,hR,a,hA,?_⟩
      generalize hE:(if CB r≠0 then CB r else if G2 r a then 0 else 2)=E at *
      by_cases hE0:E=0
      · have hF:CB r=0:=by
          rw [hE0] at hE
          split at hE
          · exact hE
          · rename_i h; exact Decidable.not_not.1 h
        have hAB:G2 r a=true:=by
          rw [hE0,hF] at hE
          simp only [ne_eq,not_true_eq_false,if_false] at hE
          split at hE
          · assumption
          · cases hE
        have V:=My hF
        have A:=Li hAB
        have hnl:=V.nl
        have hnb:=V.nb
        have hns:=V.ns
        have hlen:(B7 r a).length=r.legs.length+1:=by simp [B7]
        refine⟨_,Rz n r a hF hAB (by omega) (by omega),r,hR,a,hA,?_⟩
        have hst:=Gu n r (show r.legs.length≤20 by omega)
        have e1:((((B7 r a).length:Nat):Int) != (r.legs.length:Int)+1)=false:=by simp [hlen]
        by_cases hs:0≤stop∧stop≤(r.legs.length:Int)
        · obtain⟨s,rfl⟩:∃ s:Nat,stop=(s:Int):=⟨stop.toNat,by omega⟩
          have hs1:s<r.legs.length+1:=by omega
          refine R5 hF hAB (by omega) (by omega) s hs1 _ fun m late hm hlate=>?_
          refine⟨E,hfa,?_⟩
          rw [hE0]
          simp only [bne_self_eq_false,cond_false]
          refine⟨_,hst,?_⟩
          rw [e1,cond_false]
          have hloop:=fun K hK=>I6 V A (fun x=>x=true) K hK n 0 (by omega) (by omega) (by omega)
          rw [show((0:Nat):Int)=0 from rfl] at hloop
          refine hloop _ ⟨_,hst,_,DL _ _ _ _,?_⟩
          rw [GF (by omega) (by omega),show decide (0≤(s:Int)∧(s:Int)≤(r.legs.length:Int)+1-1)=true from decide_eq_true (by omega)]
          simp only [Bool.not_true,cond_false]
          have T:=Ku V late
          have htl:∀ x∈(Cm r late).legs,x.length≤20:=fun x hx=>by
            obtain⟨i,hi,rfl⟩:=List.mem_iff_getElem.1 hx
            have hi':i<r.buses.length+r.spares.length:=by rw [← T.legs]; exact hi
            have:=T.ll i hi'
            rw [B6 _ _ hi] at this; omega
          have ht1:=T.tm
          have ht2:=T.tt
          have ht3:=T.legs
          refine⟨_,Po n _ (by omega) (by omega) (by omega) (by omega) htl,?_⟩
          rw [show((0:Int) == 0)=true by decide,cond_true]
          refine⟨_,Pp T V n (by omega),?_⟩
          rw [cond_true]
          refine⟨WR r.fr r.to_ (AA r a s),by rw [Qc]; simp [B7,hs1],?_⟩
          obtain⟨l,g1,g2,g3⟩:=M8 n r a (Cm r late) V (T.sized V A) (T.ok V A) s hs1 (by omega) (by omega)
          refine⟨_,g1,?_⟩
          have hle:=NG T V A hs1 g2 g3
          have hge:WR r.fr r.to_ (AA r a s)≤Hu l:=by
            rcases hm with⟨_,h0⟩ | ⟨hm,he⟩
            · rw [h0]; exact GN l
            · rw [← he]; exact NH V A hs1 hm hlate g2 g3
          have e:(Hu l == WR r.fr r.to_ (AA r a s))=true:=by simp; omega
          rw [e,cond_true]
          exact aw
        · have hstop:AL n r stop=some false:=by
            unfold AL
            rw [show AF n r=some ((r.legs.length:Int)+1) from by unfold AF; rw [GF (by omega) (by omega)],Option.bind_some,Gw,GF (by omega) (by omega)]
            simp; omega
          unfold CF
          refine⟨E,hac,?_⟩
          rw [hE0]
          simp only [bne_self_eq_false,cond_false]
          refine⟨_,hstop,?_⟩
          rw [Bool.not_false,cond_true]
          refine⟨E,hfa,?_⟩
          rw [hE0]
          simp only [bne_self_eq_false,cond_false]
          refine⟨_,hst,?_⟩
          rw [e1,cond_false]
          have hloop:=fun K hK=>I6 V A (fun x=>x=true) K hK n 0 (by omega) (by omega) (by omega)
          rw [show((0:Nat):Int)=0 from rfl] at hloop
          refine hloop _ ⟨_,hst,_,DL _ _ _ _,?_⟩
          rw [GF (by omega) (by omega),show decide (0≤stop∧stop≤(r.legs.length:Int)+1-1)=false from decide_eq_false (by omega)]
          exact aw
      · have e0:(E != 0)=true:=by simpa using hE0
        have hW:CE n r a=some ([],E):=by
          unfold CE
          rw [hac,Option.bind_some,e0]; rfl
        refine⟨_,hW,r,hR,a,hA,?_⟩
        unfold CF
        refine⟨E,hac,?_⟩
        rw [e0,cond_true]
        refine⟨E,hfa,?_⟩
        rw [e0,cond_true,show(E == E)=true by simp,cond_true,cond_true]
        exact aw
  · have hT:G5 n r=some false:=by
      unfold G5
      by_cases q1:r.legs.length≤10
      · rw [show decide (((r.legs.length:Nat):Int)≤10)=true from decide_eq_true (by omega)]
        by_cases q2:r.buses.length≤6
        · rw [show decide (((r.buses.length:Nat):Int)≤6)=true from decide_eq_true (by omega),show decide (((r.spares.length:Nat):Int)≤4)=false from decide_eq_false (by omega)]; rfl
        · rw [show decide (((r.buses.length:Nat):Int)≤6)=false from decide_eq_false (by omega)]; rfl
      · rw [show decide (((r.legs.length:Nat):Int)≤10)=false from decide_eq_false (by omega)]; rfl
    exact⟨false,hT,aw⟩
end Go.Proofs.Ytokchpjijlebiaa
