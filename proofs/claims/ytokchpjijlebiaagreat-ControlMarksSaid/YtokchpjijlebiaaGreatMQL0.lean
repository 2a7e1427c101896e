/- The plain law. -/
import Derived.Test.YtokchpjijlebiaaGreatMQP0
import Derived.Test.YtokchpjijlebiaaGreatMQWW
set_option linter.all false
namespace Go.Proofs.YtokchpjijlebiaaGreat
open Go Go.RowKit
theorem HU {x:Int} (h0 : -9223372036854775808≤x) (h1:x≤9223372036854775807):IntKind.i64.wrap x=x:=by
  simp [IntKind.wrap,IntKind.bits,IntKind.signed]; omega
theorem CY (i:Nat) (h:i<1000000000000):IntKind.i64.wrap ((i:Int)+1)=((i+1:Nat):Int):=by
  rw [HU (by omega) (by omega)]; omega
theorem RR {α:Type} (xs:List α) (i:Nat):B8 xs (i:Int)=xs[i]?:=rfl
theorem AB {α:Type} (xs:List α) (i:Nat) (h:i<xs.length):B8 xs (i:Int)=some xs[i]:=by rw [RR,List.getElem?_eq_getElem h]
theorem FO {α:Type} (xs ys:List α) (h:xs.length+ys.length≤1000000000):Jb xs ys=some (xs++ys):=by
  unfold Jb; rw [if_pos (by simpa using h)]
theorem O4 {α:Type} (xs:List α) (i:Nat) (y:α) (h:i<xs.length):upd xs (i:Int) y=some (xs.set i y):=by
  show(if i<xs.length then some (xs.set i y) else none)=_
  rw [if_pos h]
theorem SU {α:Type} (n:Nat) (x:α) (h:n≤1000000000):mk (n:Int) x=some (List.replicate n x):=by
  unfold mk; rw [if_pos (by omega)]; rfl
theorem A8 {α:Type} {xs:List α} {i:Nat} (h:i<xs.length):xs.drop i=xs[i]::xs.drop (i+1):=List.drop_eq_getElem_cons h
theorem Br {α:Type} (xs:List α) (i:Nat):decide ((i:Int)<((xs.length:Nat):Int))=decide (i<xs.length):=by
  by_cases h:i<xs.length <;> simp [h]
theorem F4 (n:Nat) (l:List Int) (h:l.length≤1000):EN n l=some l:=by
  unfold EN
  simp [FO [] l (by simp; omega)]
theorem H8 (r:Af) (hb:r.legs.length≤1000):∀ (n i:Nat)(acc:List Rg),r.legs.length<n+i→i≤r.legs.length→acc.length=i→Du n r acc (i:Int)=some (acc++r.legs.drop i)
  | 0,i,acc,h,hi,_=>by omega
  | n+1,i,acc,h,hi,ha=>by
    rw [Du,Br]
    by_cases hx:i<r.legs.length
    · simp only [hx,decide_true,cond_true,AB _ _ hx,Option.bind_some,Ig]
      rw [FO _ _ (by simp; omega)]
      simp only [Option.bind_some]
      rw [CY i (by omega),H8 r hb n (i+1) _ (by omega) (by omega) (by simp; omega),A8 hx,List.append_assoc]
      rfl
    · have:i=r.legs.length:=by omega
      simp [this]
theorem H9 (r:Af) (hb:r.buses.length≤1000):∀ (n i:Nat)(acc:List C6),r.buses.length<n+i→i≤r.buses.length→acc.length=i→Dv n r acc (i:Int)=some (acc++r.buses.drop i)
  | 0,i,acc,h,hi,_=>by omega
  | n+1,i,acc,h,hi,ha=>by
    rw [Dv,Br]
    by_cases hx:i<r.buses.length
    · simp only [hx,decide_true,cond_true,AB _ _ hx,Option.bind_some,Ig]
      rw [FO _ _ (by simp; omega)]
      simp only [Option.bind_some]
      rw [CY i (by omega),H9 r hb n (i+1) _ (by omega) (by omega) (by simp; omega),A8 hx,List.append_assoc]
      rfl
    · have:i=r.buses.length:=by omega
      simp [this]
theorem HA (r:Af) (hb:r.spares.length≤1000):∀ (n i:Nat)(acc:List A7),r.spares.length<n+i→i≤r.spares.length→acc.length=i→Dw n r acc (i:Int)=some (acc++r.spares.drop i)
  | 0,i,acc,h,hi,_=>by omega
  | n+1,i,acc,h,hi,ha=>by
    rw [Dw,Br]
    by_cases hx:i<r.spares.length
    · simp only [hx,decide_true,cond_true,AB _ _ hx,Option.bind_some]
      rw [FO _ _ (by simp; omega)]
      simp only [Option.bind_some]
      rw [CY i (by omega),HA r hb n (i+1) _ (by omega) (by omega) (by simp; omega),A8 hx,List.append_assoc]
      rfl
    · have:i=r.spares.length:=by omega
      simp [this]
theorem NM (n:Nat) (r:Af) (hn:50≤n) (h1:r.legs.length≤20) (h2:r.buses.length≤20) (h3:r.spares.length≤20):Fs n r=some r:=by
  unfold Fs
  have e1:=H8 r (by omega) n 0 [] (by omega) (by omega) rfl
  have e2:=H9 r (by omega) n 0 [] (by omega) (by omega) rfl
  have e3:=HA r (by omega) n 0 [] (by omega) (by omega) rfl
  simp only [Int.natCast_zero,List.nil_append,List.drop_zero] at e1 e2 e3
  simp [Ig,e1,e2,e3]
theorem O5 (n:Nat) (a:Aw) (h1:a.holds.length≤20) (h2:a.turns.length≤20) (h3:a.spares.length≤20):GM n a=some a:=by
  unfold GM
  simp [F4 n _ (show a.holds.length≤1000 by omega),F4 n _ (show a.turns.length≤1000 by omega),FO [] a.spares (by simp; omega)]
end Go.Proofs.YtokchpjijlebiaaGreat
namespace Go.Proofs.YtokchpjijlebiaaGreat
open Go Go.RowKit
def Cm (st turned turn:Int) (legs:List Int):Nat→Int→Int→List (Int×Int)
  | 0,_,_=>[]
  | n+1,tm,s=>if 0≤s∧s<st then(s,tm)::(if s=turned then Cm st turned turn legs n (tm+turn) (st-1-s) else match legs[s.toNat]? with
    | some d=>Cm st turned turn legs n (tm+d) (s+1)
    | none=>[]) else []
def Qd (turn:Int) (legs:List Int):Prop:=0≤turn∧turn≤300∧legs.length≤20∧∀ d∈legs,0≤d∧d≤300
theorem Ee (n:Nat) (r:Af) (h:r.legs.length≤20):AV n r=some ((r.legs.length:Int)+1):=by
  simp only [AV]; rw [HU (by omega) (by omega)]
theorem FI (n:Nat) (r:Af) (s:Int) (h:r.legs.length≤20):B9 n r s=some (decide (0≤s∧s<(r.legs.length:Int)+1)):=by
  simp only [B9,Ee n r h,AW,Option.bind_some]
  rw [HU (by omega) (by omega)]
  by_cases h1:0≤s
  · simp [h1]; omega
  · simp [h1]
theorem JR {σ:Type} (yield_:σ→Int→Int→Option (σ×Bool)) (g:σ→Int→Int→Option σ) (hy:∀ s a b,yield_ s a b=(g s a b).map fun s'=>(s',true)) (q0:Bg) (q1:Af) (q2:A1) (hl:q1.legs.length≤20) (hq:Qd q2.turn q2.legs) (hql:q2.legs.length=q1.legs.length)
    (ht:2*q0.turned+1<(q1.legs.length:Int)+1):∀ (n:Nat)(tm s:Int)(x:σ),0≤tm→tm+300*n≤1000000000→0≤s→s≤(q1.legs.length:Int)+1→(q1.legs.length:Int)+1-s<n →
    (AE n yield_ q0 q1 q2 tm s x).bind (fun o=>Ex.bind o (fun r=>some r) fun s=>some s)=(Cm ((q1.legs.length:Int)+1) q0.turned q2.turn q2.legs n tm s).foldlM (fun x p=>g x p.1 p.2) x
  | 0,tm,s,x,_,_,_,h1,h2=>by omega
  | n+1,tm,s,x,h0,hb,hs,h1,h2=>by
    have IH:=JR yield_ g hy q0 q1 q2 hl hq hql ht n
    obtain⟨t0,t1,hq1,hq2⟩:=hq
    rw [AE,Cm,FI n q1 s hl]
    by_cases hc:0≤s∧s<(q1.legs.length:Int)+1
    · simp only [hc,and_self,decide_true,Option.bind_some,cond_true,if_true,hy,List.foldlM_cons]
      cases hg:g x s tm with
      | none=>simp
      | some x' =>
        simp only [Option.map_some,Option.bind_some,cond_true,Option.bind_eq_bind,Ee n q1 hl]
        by_cases hst:s=q0.turned
        · simp only [hst,beq_self_eq_true,cond_true,if_true]
          subst hst
          rw [HU (x:=tm+q2.turn) (by omega) (by omega),HU (x:=(q1.legs.length:Int)+1-1) (by omega) (by omega),HU (x:=(q1.legs.length:Int)+1-1-q0.turned) (by omega) (by omega)]
          exact IH _ _ _ (by omega) (by omega) (by omega) (by omega) (by omega)
        · simp only [beq_eq_false_iff_ne.2 hst,cond_false,hst,if_false]
          by_cases hsl:s<(q2.legs.length:Int)
          · simp only [hsl,decide_true,cond_true]
            obtain⟨k,rfl⟩:∃ k:Nat,s=k:=⟨s.toNat,by omega⟩
            have hk:k<q2.legs.length:=by omega
            have hd:=hq2 _ (List.getElem_mem hk)
            rw [AB _ _ hk]
            simp only [Option.bind_some,Int.toNat_natCast,List.getElem?_eq_getElem hk]
            rw [HU (x:=tm+q2.legs[k]) (by omega) (by omega),HU (x:=(k:Int)+1) (by omega) (by omega)]
            exact IH _ _ _ (by omega) (by omega) (by omega) (by omega) (by omega)
          · simp only [hsl,decide_false,cond_false,Option.bind_some,Ex.bind]
            rw [List.getElem?_eq_none (by omega)]
            simp
    · simp only [hc,decide_false,Option.bind_some,cond_false,Ex.bind,if_false]
      simp
theorem Q9 {σ:Type} (n:Nat) (yield_:σ→Int→Int→Option (σ×Bool)) (g:σ→Int→Int→Option σ) (hy:∀ s a b,yield_ s a b=(g s a b).map fun s'=>(s',true)) (q0:Bg) (q1:Af) (q2:A1) (x:σ) (hl:q1.legs.length≤20) (hq:Qd q2.turn q2.legs) (hql:q2.legs.length=q1.legs.length)
    (ht:2*q0.turned+1<(q1.legs.length:Int)+1) (h0:0≤q0.tm) (h1:q0.tm≤100000) (hn:30≤n) (hn2:n≤1000) (hs:0≤q0.stop) (hs2:q0.stop≤(q1.legs.length:Int)+1) :
    Bf n yield_ x q0 q1 q2=(Cm ((q1.legs.length:Int)+1) q0.turned q2.turn q2.legs n q0.tm q0.stop).foldlM (fun x p=>g x p.1 p.2) x :=
  JR yield_ g hy q0 q1 q2 hl hq hql ht n q0.tm q0.stop x h0 (by omega) hs hs2 (by omega)
theorem GJ {st turned turn:Int} {legs:List Int} (ht:2*turned+1<st):∀ (n:Nat)(tm s:Int)(p:Int×Int),p∈Cm st turned turn legs n tm s→s≤p.1∧0≤p.1∧p.1<st
  | 0,_,_,_,h=>by simp [Cm] at h
  | n+1,tm,s,p,h=>by
    rw [Cm] at h
    split at h
    · rename_i hc
      rcases List.mem_cons.1 h with rfl | h
      · exact⟨Int.le_refl _,hc.1,hc.2⟩
      · split at h
        · have:=GJ ht n _ _ p h
          omega
        · split at h
          · have:=GJ ht n _ _ p h
            omega
          · simp at h
    · simp at h
theorem Gs {st turned turn:Int} {legs:List Int} (ht:2*turned+1<st):∀ (n:Nat)(tm s:Int),((Cm st turned turn legs n tm s).map Prod.fst).Nodup
  | 0,_,_=>by simp [Cm]
  | n+1,tm,s=>by
    rw [Cm]
    split
    · rename_i hc
      rw [List.map_cons,List.nodup_cons]
      split
      · rename_i hs
        refine⟨fun h=>?_,Gs ht n _ _⟩
        obtain⟨p,hp,hp2⟩:=List.mem_map.1 h
        have:=GJ ht n _ _ p hp
        simp only at hp2
        omega
      · split
        · refine⟨fun h=>?_,Gs ht n _ _⟩
          obtain⟨p,hp,hp2⟩:=List.mem_map.1 h
          have:=GJ ht n _ _ p hp
          simp only at hp2
          omega
        · simp
    · simp
def LO (st turned turn:Int) (legs:List Int) (n:Nat) (tm s k:Int):Option Int:=Dd (Cm st turned turn legs n tm s) k
theorem Na {K α:Type} [DecidableEq K]:∀ {l:List (K×α)} {k:K} {x:α},Dd l k=some x→(k,x)∈l
  | [],_,_,h=>by simp [Dd] at h
  | p::r,k,x,h=>by
    rw [Dd] at h
    split at h
    · rename_i hp; cases h; subst hp; simp
    · exact List.mem_cons_of_mem _ (Na h)
theorem KB {st turned:Int} {turn turn':Int} {legs legs':List Int} (ht:2*turned+1<st) (hl:legs.length=legs'.length) (hle:∀ (k:Nat)(d d':Int),legs[k]? = some d→legs'[k]? = some d'→d≤d') (h1:turn≤turn'):∀ (n:Nat)(tm tm' s k:Int),tm≤tm' →
    (LO st turned turn legs n tm s k=none∧LO st turned turn' legs' n tm' s k=none)∨∃ a b,LO st turned turn legs n tm s k=some a∧LO st turned turn' legs' n tm' s k=some b∧a≤b
  | 0,_,_,_,_,_=>.inl ⟨rfl,rfl⟩
  | n+1,tm,tm',s,k,h=>by
    unfold LO
    rw [Cm,Cm]
    by_cases hc:0≤s∧s<st
    · simp only [hc,and_self,if_true,Dd]
      by_cases hk:s=k
      · simp only [hk,if_true]; exact .inr ⟨_,_,rfl,rfl,h⟩
      · simp only [hk,if_false]
        by_cases hs:s=turned
        · simp only [hs,if_true]
          exact KB ht hl hle h1 n _ _ _ k (by omega)
        · simp only [hs,if_false]
          cases hg:legs[s.toNat]? with
          | none =>
            have:legs'[s.toNat]? = none:=by rw [List.getElem?_eq_none_iff] at hg ⊢; omega
            simp [this,Dd]
          | some d =>
            have hlt:s.toNat<legs.length:=by
              rcases Nat.lt_or_ge s.toNat legs.length with h' | h'
              · exact h'
              · rw [List.getElem?_eq_none h'] at hg; cases hg
            obtain⟨d',hd'⟩:∃ d',legs'[s.toNat]? = some d':=⟨_,List.getElem?_eq_getElem (by omega)⟩
            simp only [hd']
            have:=hle _ _ _ hg hd'
            exact KB ht hl hle h1 n _ _ _ k (by omega)
    · simp only [hc,if_false]; exact .inl ⟨rfl,rfl⟩
end Go.Proofs.YtokchpjijlebiaaGreat
namespace Go.Proofs.YtokchpjijlebiaaGreat
open Go Go.RowKit
def BT (r:Af) (a:Aw) (t:Au) (i:Nat):Bg×A1:=(⟨(r.buses[i]!).stop,t.tm[i]! + a.holds[i]! * r.unit,a.turns[i]!⟩,⟨t.legs[i]!,t.turns[i]!⟩)
def Gd (r:Af) (a:Aw) (t:Au) (j:Nat):Option (Bg×A1):=if a.spares[j]! then some (⟨(r.spares[j]!).stop,(r.spares[j]!).tm,-1⟩,⟨t.legs[r.buses.length+j]!,0⟩) else none
def CV (r:Af) (a:Aw) (t:Au):List (Bg×A1):=(List.range r.buses.length).map (BT r a t)++(List.range r.spares.length).filterMap (Gd r a t)
structure HV (r:Af) (a:Aw) (t:Au):Prop where
  nb:r.buses.length≤6
  ns:r.spares.length≤4
  holds:a.holds.length=r.buses.length
  turns:a.turns.length=r.buses.length
  spares:a.spares.length=r.spares.length
  tm:t.tm.length=r.buses.length
  tt:t.turns.length=r.buses.length
  legs:t.legs.length=r.buses.length+r.spares.length
  hold:∀ x∈a.holds,0≤x∧x≤2
  unit:1≤r.unit∧r.unit≤30
  tms:∀ x∈t.tm,0≤x∧x≤10000
theorem Bv {α:Type} [Inhabited α] (l:List α) (i:Nat) (h:i<l.length):l[i]! = l[i]:=getElem!_pos l i h
theorem IU {x u:Int} (h0:0≤x) (h1:x≤2) (h2:1≤u) (h3:u≤30):0≤x*u∧x*u≤60:=by
  have:x=0∨x=1∨x=2:=by omega
  rcases this with rfl | rfl | rfl <;> omega
theorem KY (r:Af) (a:Aw) (t:Au) (S:HV r a t):∀ (n i:Nat)(x:List Bg)(y:List A1),r.buses.length<n+i→i≤r.buses.length→x.length=i→y.length=i →
    AX n ⟨r,a⟩ t x y (i:Int)=some (x++((List.range r.buses.length).drop i).map (fun i=>(BT r a t i).1),y++((List.range r.buses.length).drop i).map (fun i=>(BT r a t i).2))
  | 0,i,x,y,h,hi,_,_=>by omega
  | n+1,i,x,y,h,hi,h1,h2=>by
    rw [AX]
    simp only []
    rw [Br]
    have:=S.nb
    by_cases hx:i<r.buses.length
    · have q1:i<a.holds.length:=by rw [S.holds]; exact hx
      have q2:i<a.turns.length:=by rw [S.turns]; exact hx
      have q3:i<t.tm.length:=by rw [S.tm]; exact hx
      have q4:i<t.turns.length:=by rw [S.tt]; exact hx
      have q5:i<t.legs.length:=by rw [S.legs]; omega
      have q6:i<(List.range r.buses.length).length:=by simpa using hx
      obtain⟨b1,b2⟩:=IU (S.hold _ (List.getElem_mem q1)).1 (S.hold _ (List.getElem_mem q1)).2 S.unit.1 S.unit.2
      have b3:=S.tms _ (List.getElem_mem q3)
      simp only [hx,decide_true,cond_true,AB _ _ hx,AB _ _ q1,AB _ _ q2,AB _ _ q3,AB _ _ q4,AB _ _ q5,Option.bind_some]
      rw [FO _ _ (by simp; omega),FO _ _ (by simp; omega)]
      simp only [Option.bind_some]
      rw [CY i (by omega),KY r a t S n (i+1) _ _ (by omega) (by omega) (by simp; omega) (by simp; omega),A8 q6,List.append_assoc,List.append_assoc]
      rw [HU (x:=a.holds[i]*r.unit) (by omega) (by omega),HU (by omega) (by omega)]
      simp only [List.getElem_range,List.map_cons,BT,Bv _ _ hx,Bv _ _ q1,Bv _ _ q2,Bv _ _ q3,Bv _ _ q4,Bv _ _ q5]
      rfl
    · have:i=r.buses.length:=by omega
      simp [this]
theorem HW (r:Af) (a:Aw) (t:Au) (S:HV r a t):∀ (n i:Nat)(x:List Bg)(y:List A1),r.spares.length<n+i→i≤r.spares.length→x.length≤100+i→y.length≤100+i →
    AR n ⟨r,a⟩ t x y (i:Int)=some (x++(((List.range r.spares.length).drop i).filterMap (Gd r a t)).map Prod.fst,y++(((List.range r.spares.length).drop i).filterMap (Gd r a t)).map Prod.snd)
  | 0,i,x,y,h,hi,_,_=>by omega
  | n+1,i,x,y,h,hi,h1,h2=>by
    rw [AR]
    simp only []
    rw [Br]
    have:=S.ns
    have:=S.nb
    by_cases hx:i<r.spares.length
    · have q1:i<a.spares.length:=by rw [S.spares]; exact hx
      have q5:r.buses.length+i<t.legs.length:=by rw [S.legs]; omega
      have q6:i<(List.range r.spares.length).length:=by simpa using hx
      simp only [hx,decide_true,cond_true,AB _ _ hx,AB _ _ q1,Option.bind_some]
      rw [A8 q6]
      simp only [List.getElem_range,List.filterMap_cons,Gd,Bv _ _ hx,Bv _ _ q1,Bv _ _ q5]
      cases hs:a.spares[i] with
      | true =>
        simp only [cond_true,if_true]
        rw [FO _ _ (by simp; omega)]
        simp only [Option.bind_some]
        rw [HU (x:=((r.buses.length:Nat):Int)+(i:Int)) (by omega) (by omega),show((r.buses.length:Nat):Int)+(i:Int)=((r.buses.length+i:Nat):Int) by omega,AB _ _ q5]
        simp only [Option.bind_some]
        rw [FO _ _ (by simp; omega)]
        simp only [Option.bind_some]
        rw [CY i (by omega),HW r a t S n (i+1) _ _ (by omega) (by omega) (by simp; omega) (by simp; omega),List.append_assoc,List.append_assoc]
        rfl
      | false =>
        simp only [cond_false]
        rw [CY i (by omega),HW r a t S n (i+1) _ _ (by omega) (by omega) (by omega) (by omega)]
        rfl
    · have:i=r.spares.length:=by omega
      have hd:(List.range r.spares.length).drop r.spares.length=[]:=List.drop_eq_nil_of_le (by simp)
      simp [this,hd]
theorem QW (n:Nat) (r:Af) (a:Aw) (t:Au) (S:HV r a t) (hn:50≤n):Bu n ⟨r,a⟩ t=some ((CV r a t).map Prod.fst,(CV r a t).map Prod.snd):=by
  have:=S.nb
  have:=S.ns
  have e1:=KY r a t S n 0 [] [] (by omega) (by omega) rfl rfl
  have e2:=HW r a t S n 0 ((List.range r.buses.length).map fun i=>(BT r a t i).1) ((List.range r.buses.length).map fun i=>(BT r a t i).2) (by omega) (by omega) (by simp; omega) (by simp; omega)
  simp only [Int.natCast_zero,List.nil_append,List.drop_zero] at e1 e2
  unfold Bu
  simp only [e1,Option.bind_some,e2,CV,List.map_append,List.map_map]
  rfl
end Go.Proofs.YtokchpjijlebiaaGreat
namespace Go.Proofs.YtokchpjijlebiaaGreat
open Go Go.RowKit
def LP (st:Int) (n:Nat) (p:(Bg×A1)×(Bg×A1)) (k:Int):Option Rg:=match Dd (Cm st p.1.1.turned p.1.2.turn p.1.2.legs n p.1.1.tm p.1.1.stop) k,Dd (Cm st p.2.1.turned p.2.2.turn p.2.2.legs n p.2.1.tm p.2.1.stop) k with
  | some a,some b=>some ⟨a,b⟩
  | _,_=>none
structure E3 (r:Af) (p:Bg×A1):Prop where
  q:Qd p.2.turn p.2.legs
  len:p.2.legs.length=r.legs.length
  t:2*p.1.turned+1<(r.legs.length:Int)+1
  tm0:0≤p.1.tm
  tm1:p.1.tm≤100000
  s0:0≤p.1.stop
  s1:p.1.stop≤(r.legs.length:Int)+1
def g1 (i:Int) (s:List (Option (List (Int×Rg)))) (a b:Int):Option (List (Option (List (Int×Rg)))):=(B8 s a).bind fun x66=>x66.bind fun m=>(upd s a (some (Ix m i (Rg.mk b b)))).bind fun u=>some u
def g2 (i:Int) (s:List (Option (List (Int×Rg)))) (a b:Int):Option (List (Option (List (Int×Rg)))):=(B8 s a).bind fun x87=>(B8 s a).bind fun x92=>x92.bind fun m_514=>x87.bind fun m_527=>(upd s a (some (Ix m_527 i (Rg.mk (HF m_514 i ((Rg.mk 0 0):Rg)).1.lo b)))).bind fun u=>some u
theorem MO {α:Type} (x:Option α):(x.bind fun s1=>some (s1,true))=x.map fun s'=>(s',true):=by cases x <;> rfl
end Go.Proofs.YtokchpjijlebiaaGreat
namespace Go.Proofs.YtokchpjijlebiaaGreat
open Go Go.RowKit
def DB (x:Rg) (m:Int):Bool:=decide (0≤x.lo∧x.lo≤x.hi∧x.hi≤m)
def JS (r:Af) (b:C6):Bool:=decide (0≤b.stop∧b.stop≤(r.legs.length:Int)) && DB b.tm 2000
def FR (r:Af) (s:A7):Bool:=decide (0≤s.stop∧s.stop≤(r.legs.length:Int)) && decide (0≤s.tm∧s.tm≤2000)
def NN (r:Af):Bool:=decide (r.legs.length % 2=1∧r.legs.length≤7) && DB r.turn 300 && decide (1≤r.unit∧r.unit≤30) && decide (0≤r.gap∧r.gap≤2000) && decide (0≤r.fr∧r.fr≤r.to_∧r.to_≤2000) && r.legs.all (fun x=>DB x 300) && r.buses.all (JS r) && r.spares.all (FR r)
def Bw (r:Af):Int:=if r.buses.length>4∨r.spares.length>2 then 3 else if NN r then 0 else 1
theorem ED (n:Nat) (x a b:Int):DJ n x a b=some (decide (a≤x∧x≤b)):=by
  unfold DJ
  by_cases h:a≤x <;> simp [h]
theorem FY (n:Nat) (x a b:Int):AW n x a b=some (decide (a≤x∧x≤b)):=by
  unfold AW
  by_cases h:a≤x <;> simp [h]
theorem HX (n:Nat) (x:Rg) (m:Int):Gg n x m=some (DB x m):=by
  unfold Gg DB
  rw [ED]
  by_cases h:0≤x.lo∧x.lo≤x.hi
  · simp [h]
  · simp only [h,decide_false,Option.bind_some,cond_false,Option.some.injEq]
    symm; rw [decide_eq_false_iff_not]; omega
theorem Qe (n:Nat) (x:Rg) (m:Int):BZ n x m=some (DB x m):=by
  unfold BZ DB
  by_cases h:0≤x.lo <;> by_cases h2:x.lo≤x.hi <;> simp [h,h2]
theorem O6 (n:Nat) (x:Rg):Bl n x=some (DB x 300):=by
  unfold Bl; rw [Qe]; rfl
theorem Nb (n:Nat) (x:Int):Cg n x=some (decide (0≤x∧x≤2000)):=by
  unfold Cg; rw [FY]; rfl
theorem FT (n:Nat) (r:Af) (h:r.legs.length≤20):Eh n r=some ((r.legs.length:Int)+1):=by
  unfold Eh; rw [HU (by omega) (by omega)]
theorem KZ (r:Af) (hb:r.legs.length≤20):∀ (n i:Nat),r.legs.length<n+i→i≤r.legs.length→Dq n r (i:Int)=some (if (r.legs.drop i).all (fun x=>DB x 300) then Ex.go () else Ex.ret 1)
  | 0,i,h,hi=>by omega
  | n+1,i,h,hi=>by
    rw [Dq,Br]
    by_cases hx:i<r.legs.length
    · simp only [hx,decide_true,cond_true,AB _ _ hx,Option.bind_some,HX]
      rw [A8 hx,List.all_cons]
      cases DB r.legs[i] 300 with
      | true=>simp only [Bool.not_true,cond_false,Bool.true_and]; rw [CY i (by omega),KZ r hb n (i+1) (by omega) (by omega)]
      | false=>rfl
    · have:i=r.legs.length:=by omega
      simp [this]
theorem La (r:Af) (hl:r.legs.length≤20) (hb:r.buses.length≤20):∀ (n i:Nat),r.buses.length<n+i→i≤r.buses.length→Ds n r (i:Int)=some (if (r.buses.drop i).all (JS r) then Ex.go () else Ex.ret 1)
  | 0,i,h,hi=>by omega
  | n+1,i,h,hi=>by
    rw [Ds,Br]
    by_cases hx:i<r.buses.length
    · simp only [hx,decide_true,cond_true,AB _ _ hx,Option.bind_some,HX,FT n r hl,ED]
      rw [A8 hx,List.all_cons,HU (x:=(r.legs.length:Int)+1-1) (by omega) (by omega),show(r.legs.length:Int)+1-1=r.legs.length by omega]
      unfold JS
      by_cases h1:0≤(r.buses[i]).stop∧(r.buses[i]).stop≤(r.legs.length:Int)
      · simp only [h1,and_self,decide_true,Bool.not_true,cond_false,Bool.true_and]
        cases DB (r.buses[i]).tm 2000 with
        | true =>
          simp only [Bool.not_true,cond_false,Bool.true_and]; rw [CY i (by omega),La r hl hb n (i+1) (by omega) (by omega)]
          rfl
        | false=>rfl
      · simp only [h1,decide_false,Bool.not_false,cond_true,Bool.false_and]
        rfl
    · have:i=r.buses.length:=by omega
      simp [this]
theorem Lb (r:Af) (hl:r.legs.length≤20) (hb:r.spares.length≤20):∀ (n i:Nat),r.spares.length<n+i→i≤r.spares.length→Dt n r (i:Int)=some (if (r.spares.drop i).all (FR r) then Ex.go () else Ex.ret 1)
  | 0,i,h,hi=>by omega
  | n+1,i,h,hi=>by
    rw [Dt,Br]
    by_cases hx:i<r.spares.length
    · simp only [hx,decide_true,cond_true,AB _ _ hx,Option.bind_some,FT n r hl,ED]
      rw [A8 hx,List.all_cons,HU (x:=(r.legs.length:Int)+1-1) (by omega) (by omega),show(r.legs.length:Int)+1-1=r.legs.length by omega]
      unfold FR
      by_cases h1:0≤(r.spares[i]).stop∧(r.spares[i]).stop≤(r.legs.length:Int)
      · simp only [h1,and_self,decide_true,Bool.not_true,cond_false,Bool.true_and]
        by_cases h2:0≤(r.spares[i]).tm∧(r.spares[i]).tm≤2000
        · simp only [h2,and_self,decide_true,Bool.not_true,cond_false,Bool.true_and]; rw [CY i (by omega),Lb r hl hb n (i+1) (by omega) (by omega)]
          rfl
        · simp only [h2,decide_false,Bool.not_false,cond_true,Bool.false_and]
          rfl
      · simp only [h1,decide_false,Bool.not_false,cond_true,Bool.false_and]
        rfl
    · have:i=r.spares.length:=by omega
      simp [this]
theorem Sn (k:Nat) (h:k≤1000):Int.tmod ((k:Nat):Int) 2=((k % 2:Nat):Int):=rfl
theorem Hi (n:Nat) (r:Af) (hn:50≤n) (h1:r.legs.length≤20) (h2:r.buses.length≤20) (h3:r.spares.length≤20):FZ n r=some (Bw r):=by
  unfold FZ Bw
  have e1:=KZ r h1 n 0 (by omega) (by omega)
  have e2:=La r h1 h2 n 0 (by omega) (by omega)
  have e3:=Lb r h1 h3 n 0 (by omega) (by omega)
  simp only [Int.natCast_zero,List.drop_zero] at e1 e2 e3
  simp only [HX,ED,e1,e2,e3,Option.bind_some,Sn _ (show r.legs.length≤1000 by omega)]
  by_cases a1:r.buses.length>4
  · have a1':decide (((r.buses.length:Nat):Int)>4)=true:=by simp; omega
    simp only [a1',a1,cond_true,Option.bind_some,true_or,if_true]
  have a1':decide (((r.buses.length:Nat):Int)>4)=false:=by simp; omega
  by_cases a2:r.spares.length>2
  · have a2':decide (((r.spares.length:Nat):Int)>2)=true:=by simp; omega
    simp only [a1',a2',a2,cond_true,cond_false,Option.bind_some,or_true,if_true]
  have a2':decide (((r.spares.length:Nat):Int)>2)=false:=by simp; omega
  simp only [a1',a2',cond_false,Option.bind_some,a1,a2,or_self,if_false]
  unfold NN
  by_cases b1 : ¬ (r.legs.length % 2=1)
  · have:r.legs.length % 2=0:=by omega
    simp [this]
  replace b1:=Decidable.not_not.1 b1
  have b1':(((r.legs.length % 2:Nat):Int) == 0)=false:=by rw [b1]; rfl
  by_cases b2 : ¬ (r.legs.length≤7)
  · have b2':decide (((r.legs.length:Nat):Int)>7)=true:=by simp; omega
    simp only [b1',b2',b2,and_false,decide_false,Bool.false_and,cond_false,cond_true,Option.bind_some]
    rfl
  replace b2:=Decidable.not_not.1 b2
  have b2':decide (((r.legs.length:Nat):Int)>7)=false:=by simp; omega
  simp only [b1',b2',cond_false,b1,b2,and_self,decide_true,Bool.true_and]
  cases DB r.turn 300
  · simp
  simp only [Bool.not_true,cond_false,Bool.true_and]
  by_cases b3 : ¬ (1≤r.unit∧r.unit≤30)
  · simp [b3]
  replace b3:=Decidable.not_not.1 b3
  simp only [b3,and_self,decide_true,Bool.not_true,cond_false,Option.bind_some,Bool.true_and]
  by_cases b4 : ¬ (0≤r.gap∧r.gap≤2000)
  · simp [b4]
  replace b4:=Decidable.not_not.1 b4
  simp only [b4,and_self,decide_true,Bool.not_true,cond_false,Option.bind_some,Bool.true_and]
  by_cases b5 : ¬ (0≤r.fr∧r.fr≤r.to_)
  · simp only [b5,decide_false,Bool.not_false,cond_true,Option.bind_some]
    have : ¬ (0≤r.fr∧r.fr≤r.to_∧r.to_≤2000):=fun h=>b5 ⟨h.1,h.2.1⟩
    simp [this]
  replace b5:=Decidable.not_not.1 b5
  simp only [b5,and_self,decide_true,Bool.not_true,cond_false,Option.bind_some]
  by_cases b6 : ¬ (r.to_≤2000)
  · have : ¬ (0≤r.fr∧r.fr≤r.to_∧r.to_≤2000):=fun h=>b6 h.2.2
    have b6':decide (r.to_>2000)=true:=by simp; omega
    simp only [b6,b6',and_false,decide_false,Bool.false_and,cond_true,Option.bind_some]
    rfl
  replace b6:=Decidable.not_not.1 b6
  have b6':decide (r.to_>2000)=false:=by simp; omega
  simp only [b6',b6,b5,and_self,decide_true,cond_false,Bool.true_and]
  cases r.legs.all (fun x=>DB x 300)
  · rfl
  cases r.buses.all (JS r)
  · rfl
  cases r.spares.all (FR r)
  · rfl
  rfl
theorem HB (l:List Rg) (F:Rg→Option Bool) (p:Rg→Bool) (hF:∀ x,F x=some (p x)) (hb:l.length≤20):∀ (n i:Nat),l.length<n+i→i≤l.length→∃ e,Ar n l F (i:Int)=some e∧((∃ k:Nat,e=Ex.ret (k:Int))∧(l.drop i).any p=true∨e=Ex.go ()∧(l.drop i).any p=false)
  | 0,i,h,hi=>by omega
  | n+1,i,h,hi=>by
    rw [Ar,Br]
    by_cases hx:i<l.length
    · simp only [hx,decide_true,cond_true,AB _ _ hx,Option.bind_some,hF]
      rw [A8 hx,List.any_cons]
      cases p l[i] with
      | true=>exact⟨_,rfl,.inl ⟨⟨i,rfl⟩,rfl⟩⟩
      | false=>simp only [cond_false,Bool.false_or]; rw [CY i (by omega)]; exact HB l F p hF hb n (i+1) (by omega) (by omega)
    · have:i=l.length:=by omega
      exact⟨Ex.go (),by simp [this],.inr ⟨rfl,by simp [this]⟩⟩
theorem QA (n:Nat) (hn:50≤n) (l:List Rg) (F:Rg→Option Bool) (p:Rg→Bool) (hF:∀ x,F x=some (p x)) (hb:l.length≤20):By n l F=some (l.all p):=by
  unfold By A5 AC
  obtain⟨e,he,h⟩:=HB l (fun y0=>AI n y0 F) (fun x=>!p x) (fun x=>by simp [AI,hF]) hb n 0 (by omega) (by omega)
  simp only [Int.natCast_zero,List.drop_zero] at he h
  rw [he]
  have hall:l.all p=!(l.any fun x=>!p x):=by rw [List.not_any_eq_all_not]; simp
  rcases h with⟨⟨k,rfl⟩,h⟩ | ⟨rfl,h⟩
  · rw [hall,h]
    simp [Ex.bind]
  · rw [hall,h]
    simp [Ex.bind]
theorem GK (l:List C6) (F:C6→Option Bool) (p:C6→Bool) (hF:∀ x,F x=some (p x)) (hb:l.length≤20):∀ (n i:Nat),l.length<n+i→i≤l.length→∃ e,Av n l F (i:Int)=some e∧((∃ k:Nat,e=Ex.ret (k:Int))∧(l.drop i).any p=true∨e=Ex.go ()∧(l.drop i).any p=false)
  | 0,i,h,hi=>by omega
  | n+1,i,h,hi=>by
    rw [Av,Br]
    by_cases hx:i<l.length
    · simp only [hx,decide_true,cond_true,AB _ _ hx,Option.bind_some,hF]
      rw [A8 hx,List.any_cons]
      cases p l[i] with
      | true=>exact⟨_,rfl,.inl ⟨⟨i,rfl⟩,rfl⟩⟩
      | false=>simp only [cond_false,Bool.false_or]; rw [CY i (by omega)]; exact GK l F p hF hb n (i+1) (by omega) (by omega)
    · have:i=l.length:=by omega
      exact⟨Ex.go (),by simp [this],.inr ⟨rfl,by simp [this]⟩⟩
theorem P5 (n:Nat) (hn:50≤n) (l:List C6) (F:C6→Option Bool) (p:C6→Bool) (hF:∀ x,F x=some (p x)) (hb:l.length≤20):BA n l F=some (l.all p):=by
  unfold BA AF AQ
  obtain⟨e,he,h⟩:=GK l (fun y0=>AS n y0 F) (fun x=>!p x) (fun x=>by simp [AS,hF]) hb n 0 (by omega) (by omega)
  simp only [Int.natCast_zero,List.drop_zero] at he h
  rw [he]
  have hall:l.all p=!(l.any fun x=>!p x):=by rw [List.not_any_eq_all_not]; simp
  rcases h with⟨⟨k,rfl⟩,h⟩ | ⟨rfl,h⟩
  · rw [hall,h]
    simp [Ex.bind]
  · rw [hall,h]
    simp [Ex.bind]
theorem Ge (l:List A7) (F:A7→Option Bool) (p:A7→Bool) (hF:∀ x,F x=some (p x)) (hb:l.length≤20):∀ (n i:Nat),l.length<n+i→i≤l.length→∃ e,As n l F (i:Int)=some e∧((∃ k:Nat,e=Ex.ret (k:Int))∧(l.drop i).any p=true∨e=Ex.go ()∧(l.drop i).any p=false)
  | 0,i,h,hi=>by omega
  | n+1,i,h,hi=>by
    rw [As,Br]
    by_cases hx:i<l.length
    · simp only [hx,decide_true,cond_true,AB _ _ hx,Option.bind_some,hF]
      rw [A8 hx,List.any_cons]
      cases p l[i] with
      | true=>exact⟨_,rfl,.inl ⟨⟨i,rfl⟩,rfl⟩⟩
      | false=>simp only [cond_false,Bool.false_or]; rw [CY i (by omega)]; exact Ge l F p hF hb n (i+1) (by omega) (by omega)
    · have:i=l.length:=by omega
      exact⟨Ex.go (),by simp [this],.inr ⟨rfl,by simp [this]⟩⟩
theorem NO (n:Nat) (hn:50≤n) (l:List A7) (F:A7→Option Bool) (p:A7→Bool) (hF:∀ x,F x=some (p x)) (hb:l.length≤20):Bz n l F=some (l.all p):=by
  unfold Bz A6 AD
  obtain⟨e,he,h⟩:=Ge l (fun y0=>AJ n y0 F) (fun x=>!p x) (fun x=>by simp [AJ,hF]) hb n 0 (by omega) (by omega)
  simp only [Int.natCast_zero,List.drop_zero] at he h
  rw [he]
  have hall:l.all p=!(l.any fun x=>!p x):=by rw [List.not_any_eq_all_not]; simp
  rcases h with⟨⟨k,rfl⟩,h⟩ | ⟨rfl,h⟩
  · rw [hall,h]
    simp [Ex.bind]
  · rw [hall,h]
    simp [Ex.bind]
theorem P6 (n:Nat) (b:C6) (r:Af) (h:r.legs.length≤20):Bn n b r=some (JS r b):=by
  unfold Bn JS
  rw [FI n r _ h,Qe]
  by_cases h1:0≤b.stop∧b.stop≤(r.legs.length:Int)
  · have:0≤b.stop∧b.stop<(r.legs.length:Int)+1:=⟨h1.1,by omega⟩
    simp [h1,this]
  · have : ¬ (0≤b.stop∧b.stop<(r.legs.length:Int)+1):=fun h=>h1 ⟨h.1,by omega⟩
    simp only [this,h1,decide_false,Option.bind_some,cond_false,Bool.false_and]
theorem P7 (n:Nat) (b:A7) (r:Af) (h:r.legs.length≤20):Bo n b r=some (FR r b):=by
  unfold Bo FR
  rw [FI n r _ h,Nb]
  by_cases h1:0≤b.stop∧b.stop≤(r.legs.length:Int)
  · have:0≤b.stop∧b.stop<(r.legs.length:Int)+1:=⟨h1.1,by omega⟩
    simp [h1,this]
  · have : ¬ (0≤b.stop∧b.stop<(r.legs.length:Int)+1):=fun h=>h1 ⟨h.1,by omega⟩
    simp only [this,h1,decide_false,Option.bind_some,cond_false,Bool.false_and]
theorem Nc (n:Nat) (r:Af) (h:r.legs.length≤20):Bt n r=some ((((r.legs.length+1) / 2:Nat):Int)):=by
  unfold Bt
  rw [Ee n r h]
  simp only [Option.bind_some,Option.some.injEq]
  rw [show((r.legs.length:Int)+1)=((r.legs.length+1:Nat):Int) by omega,show Int.tdiv ((r.legs.length+1:Nat):Int) 2=(((r.legs.length+1) / 2:Nat):Int) from rfl,HU (by omega) (by omega)]
theorem O7 (n:Nat) (r:Af) (hn:50≤n) (h1:r.legs.length≤20) (h2:r.buses.length≤20) (h3:r.spares.length≤20):Bm n r=some (Bw r):=by
  unfold Bm Bw
  rw [QA n hn r.legs _ (fun x=>DB x 300) (fun x=>O6 n x) h1,P5 n hn r.buses _ (JS r) (fun x=>P6 n x r h1) h2,NO n hn r.spares _ (FR r) (fun x=>P7 n x r h1) h3]
  simp only [O6,FY,Nb,Nc n r h1,Option.bind_some,Sn _ (show r.legs.length≤1000 by omega)]
  by_cases a1:r.buses.length>4
  · have a1':decide (((r.buses.length:Nat):Int)>4)=true:=by simp; omega
    simp only [a1',a1,cond_true,Option.bind_some,true_or,if_true]
  have a1':decide (((r.buses.length:Nat):Int)>4)=false:=by simp; omega
  by_cases a2:r.spares.length>2
  · have a2':decide (((r.spares.length:Nat):Int)>2)=true:=by simp; omega
    simp only [a1',a2',a2,cond_true,cond_false,Option.bind_some,or_true,if_true]
  have a2':decide (((r.spares.length:Nat):Int)>2)=false:=by simp; omega
  simp only [a1',a2',cond_false,Option.bind_some,a1,a2,or_self,if_false]
  unfold NN
  by_cases b1 : ¬ (r.legs.length % 2=1)
  · have:r.legs.length % 2=0:=by omega
    simp [this]
  replace b1:=Decidable.not_not.1 b1
  have b1':(((r.legs.length % 2:Nat):Int) == 0)=false:=by rw [b1]; rfl
  by_cases b2 : ¬ (r.legs.length≤7)
  · have b2':decide ((((r.legs.length+1) / 2:Nat):Int)>4)=true:=by simp; omega
    simp only [b1',b2',b2,and_false,decide_false,Bool.false_and,cond_false,cond_true,Option.bind_some]
    rfl
  replace b2:=Decidable.not_not.1 b2
  have b2':decide ((((r.legs.length+1) / 2:Nat):Int)>4)=false:=by simp; omega
  simp only [b1',b2',cond_false,b1,b2,and_self,decide_true,Bool.true_and]
  cases r.legs.all (fun x=>DB x 300)
  · simp
  cases DB r.turn 300
  · simp
  cases r.buses.all (JS r)
  · simp
  cases r.spares.all (FR r)
  · simp
  simp only [Bool.not_true,cond_false,Bool.true_and,Bool.and_true,Option.bind_some]
  by_cases b3 : ¬ (1≤r.unit∧r.unit≤30)
  · simp [b3]
  replace b3:=Decidable.not_not.1 b3
  by_cases b4 : ¬ (0≤r.gap∧r.gap≤2000)
  · simp [b3,b4]
  replace b4:=Decidable.not_not.1 b4
  simp only [b3,b4,and_self,decide_true,Bool.not_true,cond_false,Option.bind_some,Bool.true_and]
  by_cases b5 : ¬ (0≤r.fr∧r.fr≤2000)
  · have : ¬ (0≤r.fr∧r.fr≤r.to_∧r.to_≤2000):=fun h=>b5 ⟨h.1,by omega⟩
    simp [b5,this]
  replace b5:=Decidable.not_not.1 b5
  by_cases b6 : ¬ (0≤r.to_∧r.to_≤2000)
  · have : ¬ (0≤r.fr∧r.fr≤r.to_∧r.to_≤2000):=fun h=>b6 ⟨by omega,h.2.2⟩
    simp [b5,b6]; omega
  replace b6:=Decidable.not_not.1 b6
  simp only [b5,b6,and_self,decide_true,Bool.not_true,cond_false,Option.bind_some]
  by_cases b7:r.fr>r.to_
  · have : ¬ (0≤r.fr∧r.fr≤r.to_∧r.to_≤2000):=fun h=>by omega
    have b7':decide (r.fr>r.to_)=true:=by simp; omega
    simp only [b7',cond_true]
    simp; omega
  · have b7':decide (r.fr>r.to_)=false:=by simp; omega
    simp only [b7',cond_false]
    simp; omega
structure Dk (r:Af):Prop where
  nb:r.buses.length≤4
  ns:r.spares.length≤2
  odd:r.legs.length % 2=1
  nl:r.legs.length≤7
  turn:0≤r.turn.lo∧r.turn.lo≤r.turn.hi∧r.turn.hi≤300
  unit:1≤r.unit∧r.unit≤30
  gap:0≤r.gap∧r.gap≤2000
  looked:0≤r.fr∧r.fr≤r.to_∧r.to_≤2000
  legs:∀ x∈r.legs,0≤x.lo∧x.lo≤x.hi∧x.hi≤300
  buses:∀ b∈r.buses,0≤b.stop∧b.stop≤(r.legs.length:Int)∧0≤b.tm.lo∧b.tm.lo≤b.tm.hi∧b.tm.hi≤2000
  spares:∀ s∈r.spares,0≤s.stop∧s.stop≤(r.legs.length:Int)∧0≤s.tm∧s.tm≤2000
theorem O8 {r:Af} (h:Bw r=0):Dk r:=by
  unfold Bw at h
  split at h
  · cases h
  rename_i h1
  split at h
  · rename_i h2
    simp only [NN,DB,Bool.and_eq_true,decide_eq_true_eq,List.all_eq_true] at h2
    obtain⟨⟨⟨⟨⟨⟨⟨q1,q2⟩,q3⟩,q4⟩,q5⟩,q6⟩,q7⟩,q8⟩:=h2
    refine⟨by omega,by omega,q1.1,q1.2,q2,q3,q4,q5,q6,fun b hb=>?_,fun s hs=>?_⟩
    · have:=q7 b hb
      simp only [JS,DB,Bool.and_eq_true,decide_eq_true_eq] at this
      exact⟨this.1.1,this.1.2,this.2⟩
    · have:=q8 s hs
      simp only [FR,Bool.and_eq_true,decide_eq_true_eq] at this
      exact⟨this.1.1,this.1.2,this.2⟩
  · cases h
end Go.Proofs.YtokchpjijlebiaaGreat
namespace Go.Proofs.YtokchpjijlebiaaGreat
open Go Go.RowKit
def HY (r:Af) (a:Aw) (i:Nat):Bool:=decide (0≤a.holds[i]!∧a.holds[i]!≤2) && (decide (a.turns[i]! = -1) || decide ((r.buses[i]!).stop≤a.turns[i]!∧a.turns[i]!≤(((r.legs.length+1) / 2:Nat):Int)-2))
def Fc (r:Af) (a:Aw):Bool:=decide (a.holds.length=r.buses.length∧a.turns.length=r.buses.length∧a.spares.length=r.spares.length) && (List.range r.buses.length).all (HY r a)
theorem Jn (n:Nat) (r:Af) (h:r.legs.length≤20):Fp n r=some ((((r.legs.length+1) / 2:Nat):Int)):=by
  unfold Fp
  rw [HU (x:=(r.legs.length:Int)+1) (by omega) (by omega),show((r.legs.length:Int)+1)=((r.legs.length+1:Nat):Int) by omega,show Int.tdiv ((r.legs.length+1:Nat):Int) 2=(((r.legs.length+1) / 2:Nat):Int) from rfl,HU (by omega) (by omega)]
theorem QX (n:Nat) (r:Af) (b:C6) (t:Int) (h:r.legs.length≤20):BQ n r b t=some (decide (t=-1) || decide (b.stop≤t∧t≤(((r.legs.length+1) / 2:Nat):Int)-2)):=by
  unfold BQ
  rw [Nc n r h]
  simp only [Option.bind_some,FY]
  rw [HU (by omega) (by omega)]
  by_cases ht:t=-1
  · simp [ht]
  · rw [beq_eq_false_iff_ne.2 ht]
    simp [ht]
theorem Jo (r:Af) (a:Aw) (hl:r.legs.length≤20) (hb:r.buses.length≤20) (h1:a.holds.length=r.buses.length) (h2:a.turns.length=r.buses.length):∀ (n i:Nat),r.buses.length<n+i→i≤r.buses.length→Cf n r a (i:Int)=some (if ((List.range r.buses.length).drop i).all (HY r a) then Ex.go () else Ex.ret false)
  | 0,i,h,hi=>by omega
  | n+1,i,h,hi=>by
    rw [Cf,Br]
    by_cases hx:i<r.buses.length
    · have q1:i<a.holds.length:=by omega
      have q2:i<a.turns.length:=by omega
      have q6:i<(List.range r.buses.length).length:=by simpa using hx
      simp only [hx,decide_true,cond_true,AB _ _ hx,AB _ _ q1,AB _ _ q2,Option.bind_some,ED,Jn n r hl]
      rw [A8 q6,List.all_cons,List.getElem_range]
      have IH:=Jo r a hl hb h1 h2 n (i+1) (by omega) (by omega)
      rw [HU (x:=(((r.legs.length+1) / 2:Nat):Int)-2) (by omega) (by omega),CY i (by omega),IH]
      unfold HY
      rw [Bv _ _ hx,Bv _ _ q1,Bv _ _ q2]
      by_cases b1:0≤a.holds[i]∧a.holds[i]≤2
      · simp only [b1,and_self,decide_true,Bool.not_true,cond_false,Bool.true_and]
        by_cases b2:a.turns[i]=-1
        · simp [b2]
        · have:(a.turns[i] != -1)=true:=by simpa using b2
          simp only [this,cond_true,b2,decide_false,Bool.false_or]
          by_cases b3:(r.buses[i]).stop≤a.turns[i]∧a.turns[i]≤(((r.legs.length+1) / 2:Nat):Int)-2
          · simp only [b3,and_self,decide_true,Bool.not_true,cond_false,Bool.true_and]
          · simp only [b3,decide_false,Bool.not_false,cond_true,Bool.false_and]
            rfl
      · simp only [b1,decide_false,Bool.not_false,cond_true,Bool.false_and]
        rfl
    · have:i=r.buses.length:=by omega
      have hd:(List.range r.buses.length).drop r.buses.length=[]:=List.drop_eq_nil_of_le (by simp)
      simp [this,hd]
theorem LQ (r:Af) (a:Aw) (hl:r.legs.length≤20) (hb:r.buses.length≤20) (h1:a.holds.length=r.buses.length) (h2:a.turns.length=r.buses.length):∀ (n i:Nat),r.buses.length<n+i→i≤r.buses.length→Bp n r a (i:Int)=some (if ((List.range r.buses.length).drop i).all (HY r a) then Ex.go () else Ex.ret 2)
  | 0,i,h,hi=>by omega
  | n+1,i,h,hi=>by
    rw [Bp,Br]
    by_cases hx:i<r.buses.length
    · have q1:i<a.holds.length:=by omega
      have q2:i<a.turns.length:=by omega
      have q6:i<(List.range r.buses.length).length:=by simpa using hx
      simp only [hx,decide_true,cond_true,AB _ _ hx,AB _ _ q1,AB _ _ q2,Option.bind_some,FY,QX n r _ _ hl]
      rw [A8 q6,List.all_cons,List.getElem_range]
      have IH:=LQ r a hl hb h1 h2 n (i+1) (by omega) (by omega)
      rw [CY i (by omega),IH]
      unfold HY
      rw [Bv _ _ hx,Bv _ _ q1,Bv _ _ q2]
      cases decide (0≤a.holds[i]∧a.holds[i]≤2) with
      | false=>rfl
      | true =>
        simp only [Bool.not_true,cond_false,Bool.true_and]
        cases (decide (a.turns[i]=-1) || decide ((r.buses[i]).stop≤a.turns[i]∧a.turns[i]≤(((r.legs.length+1) / 2:Nat):Int)-2)) with
        | false=>rfl
        | true=>rfl
    · have:i=r.buses.length:=by omega
      have hd:(List.range r.buses.length).drop r.buses.length=[]:=List.drop_eq_nil_of_le (by simp)
      simp [this,hd]
theorem LR (n:Nat) (r:Af) (a:Aw) (hn:50≤n) (hl:r.legs.length≤20) (hb:r.buses.length≤20):F8 n r a=some (Fc r a):=by
  unfold F8 Fc
  by_cases h1:a.holds.length=r.buses.length
  · by_cases h2:a.turns.length=r.buses.length
    · by_cases h3:a.spares.length=r.spares.length
      · have e1:=Jo r a hl hb h1 h2 n 0 (by omega) (by omega)
        simp only [Int.natCast_zero,List.drop_zero] at e1
        simp only [h1,h2,h3,bne_self_eq_false,cond_false,Option.bind_some,e1,and_self,decide_true,Bool.true_and]
        cases (List.range r.buses.length).all (HY r a) <;> rfl
      · have:(((a.spares.length:Nat):Int) != ((r.spares.length:Nat):Int))=true:=by simp; omega
        simp only [h1,h2,h3,this,bne_self_eq_false,cond_false,cond_true,Option.bind_some,and_false,decide_false,Bool.false_and]
    · have:(((a.turns.length:Nat):Int) != ((r.buses.length:Nat):Int))=true:=by simp; omega
      simp only [h1,h2,this,bne_self_eq_false,cond_false,cond_true,Option.bind_some,false_and,and_false,decide_false,Bool.false_and]
  · have:(((a.holds.length:Nat):Int) != ((r.buses.length:Nat):Int))=true:=by simp; omega
    simp only [h1,this,cond_true,Option.bind_some,false_and,decide_false,Bool.false_and]
theorem Qf (n:Nat) (r:Af) (a:Aw) (hn:50≤n) (hl:r.legs.length≤20) (hb:r.buses.length≤20) (hs:r.spares.length≤20):Cb n r a=some (if Bw r≠0 then Bw r else if Fc r a then 0 else 2):=by
  unfold Cb Fc
  rw [O7 n r hn hl hb hs]
  by_cases h0 : ¬ (Bw r=0)
  · have:(Bw r != 0)=true:=by simpa using h0
    simp [this,h0]
  replace h0:=Decidable.not_not.1 h0
  simp only [h0,bne_self_eq_false,cond_false,Option.bind_some,ne_eq,not_true_eq_false,if_false]
  by_cases h1:a.holds.length=r.buses.length
  · by_cases h2:a.turns.length=r.buses.length
    · by_cases h3:a.spares.length=r.spares.length
      · have e1:=LQ r a hl hb h1 h2 n 0 (by omega) (by omega)
        simp only [Int.natCast_zero,List.drop_zero] at e1
        simp only [h1,h2,h3,bne_self_eq_false,cond_false,Option.bind_some,e1,and_self,decide_true,Bool.true_and]
        cases (List.range r.buses.length).all (HY r a) <;> rfl
      · have:(((a.spares.length:Nat):Int) != ((r.spares.length:Nat):Int))=true:=by simp; omega
        simp only [h1,h2,h3,this,bne_self_eq_false,cond_false,cond_true,Option.bind_some,and_false,decide_false,Bool.false_and]
        rfl
    · have:(((a.turns.length:Nat):Int) != ((r.buses.length:Nat):Int))=true:=by simp; omega
      simp only [h1,h2,this,bne_self_eq_false,cond_false,cond_true,Option.bind_some,false_and,and_false,decide_false,Bool.false_and]
      rfl
  · have:(((a.holds.length:Nat):Int) != ((r.buses.length:Nat):Int))=true:=by simp; omega
    simp only [h1,this,cond_true,Option.bind_some,false_and,decide_false,Bool.false_and]
    rfl
def Ef (m to_:Int) (l:List Rg):Int:=l.foldl (fun e p=>if p.lo>m then min e p.hi else e) to_
def FU (fr to_:Int) (l:List Rg):List Int:=fr::(l.filter fun p=>decide (fr≤p.lo) && decide (p.lo≤to_)).map Rg.lo
def WR (fr to_:Int) (l:List Rg):Int:=(FU fr to_ l).foldl (fun b m=>max b (Ef m to_ l-m)) 0
theorem Lc {fr to_ m:Int} {l:List Rg} (h:fr≤to_) (hm:m∈FU fr to_ l):fr≤m∧m≤to_:=by
  rcases List.mem_cons.1 hm with rfl | hm
  · exact⟨Int.le_refl _,h⟩
  · obtain⟨p,hp,rfl⟩:=List.mem_map.1 hm
    have:=(List.mem_filter.1 hp).2
    simpa using this
end Go.Proofs.YtokchpjijlebiaaGreat
namespace Go.Proofs.YtokchpjijlebiaaGreat
open Go Go.RowKit
structure Hj (r:Af) (a:Aw):Prop where
  holds:a.holds.length=r.buses.length
  turns:a.turns.length=r.buses.length
  spares:a.spares.length=r.spares.length
  hold:∀ i,i<r.buses.length→0≤a.holds[i]!∧a.holds[i]!≤2
  turn:∀ i,i<r.buses.length→a.turns[i]! = -1∨(r.buses[i]!).stop≤a.turns[i]!∧a.turns[i]!≤(((r.legs.length+1) / 2:Nat):Int)-2
theorem KC {r:Af} {a:Aw} (h:Fc r a=true):Hj r a:=by
  simp only [Fc,Bool.and_eq_true,decide_eq_true_eq,List.all_eq_true,List.mem_range] at h
  obtain⟨⟨h1,h2,h3⟩,h4⟩:=h
  refine⟨h1,h2,h3,fun i hi=>?_,fun i hi=>?_⟩ <;>
  · have:=h4 i hi
    simp only [HY,Bool.and_eq_true,Bool.or_eq_true,decide_eq_true_eq] at this
    first | exact this.1 | exact this.2
structure GL (f:Rg→Int):Prop where
  le:∀ x:Rg,x.lo≤x.hi→x.lo≤f x∧f x≤x.hi
theorem GL.low:GL Rg.lo:=⟨fun _ h=>⟨Int.le_refl _,h⟩⟩
theorem GL.high:GL Rg.hi:=⟨fun _ h=>⟨h,Int.le_refl _⟩⟩
def Fm (r:Af) (a:Aw) (f:Rg→Int) (i:Nat):Bg×A1:=(⟨(r.buses[i]!).stop,f (r.buses[i]!).tm+a.holds[i]! * r.unit,a.turns[i]!⟩,⟨r.legs.map f,f r.turn⟩)
def KD (r:Af) (f:Rg→Int) (j:Nat):Bg×A1:=(⟨(r.spares[j]!).stop,(r.spares[j]!).tm,-1⟩,⟨r.legs.map f,0⟩)
theorem QY {β:Type} [Inhabited β] (x:β) (n i:Nat) (h:i<n):(List.replicate n x)[i]! = x:=by
  rw [Bv _ _ (by simpa using h),List.getElem_replicate]
theorem LS {r:Af} {f:Rg→Int} (hf:GL f) (V:Dk r):(∀ d∈r.legs.map f,0≤d∧d≤300)∧0≤f r.turn∧f r.turn≤300:=by
  refine⟨fun d hd=>?_,?_⟩
  · obtain⟨x,hx,rfl⟩:=List.mem_map.1 hd
    have:=V.legs x hx
    have:=hf.le x (by omega)
    omega
  · have:=V.turn
    have:=hf.le r.turn (by omega)
    omega
theorem NP {r:Af} {a:Aw} {f:Rg→Int} (hf:GL f) (V:Dk r) (A:Hj r a) (i:Nat) (hi:i<r.buses.length):E3 r (Fm r a f i):=by
  have hb:=V.buses _ (List.getElem_mem hi)
  have h1:=A.hold i hi
  have h2:=A.turn i hi
  have h3:=IU h1.1 h1.2 V.unit.1 V.unit.2
  obtain⟨s1,s2,s3⟩:=LS hf V
  have:=V.nl
  rw [Bv _ _ hi] at h2
  have h4:=hf.le (r.buses[i]).tm (by omega)
  refine⟨⟨s2,s3,by simp [Fm]; omega,s1⟩,by simp [Fm],?_,?_,?_,?_,?_⟩ <;> simp only [Fm,Bv _ _ hi] <;> omega
theorem P8 {r:Af} {f:Rg→Int} (hf:GL f) (V:Dk r) (j:Nat) (hj:j<r.spares.length):E3 r (KD r f j):=by
  have hb:=V.spares _ (List.getElem_mem hj)
  obtain⟨s1,_,_⟩:=LS hf V
  have:=V.nl
  refine⟨⟨Int.le_refl _,by simp [KD],by simp [KD]; omega,s1⟩,by simp [KD],?_,?_,?_,?_,?_⟩ <;> simp only [KD,Bv _ _ hj] <;> omega
def QZ (r:Af) (a:Aw):List ((Bg×A1)×(Bg×A1)):=(List.range r.buses.length).map (fun i=>(Fm r a Rg.lo i,Fm r a Rg.hi i))++(List.range r.spares.length).filterMap fun j=>if a.spares[j]! then some (KD r Rg.lo j,KD r Rg.hi j) else none
theorem Hk {st turned turn:Int} {legs:List Int} (ht:2*turned+1<st):∀ (n m:Nat)(tm s:Int),st-s<n→st-s<m→Cm st turned turn legs n tm s=Cm st turned turn legs m tm s
  | 0,m,tm,s,h1,h2=>by
    cases m with
    | zero=>rfl
    | succ m=>rw [Cm,Cm,if_neg (by omega)]
  | n+1,0,tm,s,h1,h2=>by rw [Cm,Cm,if_neg (by omega)]
  | n+1,m+1,tm,s,h1,h2=>by
    rw [Cm,Cm]
    by_cases hc:0≤s∧s<st
    · simp only [hc,and_self,if_true]
      congr 1
      by_cases hs:s=turned
      · simp only [hs,if_true]
        exact Hk ht n m _ _ (by omega) (by omega)
      · simp only [hs,if_false]
        cases legs[s.toNat]? with
        | none=>rfl
        | some d=>exact Hk ht n m _ _ (by omega) (by omega)
    · simp only [hc,if_false]
def EL (r:Af) (a:Aw) (k:Nat):List Rg:=(QZ r a).filterMap fun p=>LP ((r.legs.length:Int)+1) 40 p k
def Eu (r:Af) (a:Aw):List Int:=(List.range (r.legs.length+1)).map fun k=>WR r.fr r.to_ (EL r a k)
end Go.Proofs.YtokchpjijlebiaaGreat
namespace Go.Proofs.YtokchpjijlebiaaGreat
open Go Go.RowKit
end Go.Proofs.YtokchpjijlebiaaGreat
namespace Go.Proofs.YtokchpjijlebiaaGreat
open Go Go.RowKit
def Bk.put (x:Bk) (k:Nat) (v:Int):Bk:=match k with
  | 0=>⟨v,x.a1,x.a2,x.a3⟩
  | 1=>⟨x.a0,v,x.a2,x.a3⟩
  | 2=>⟨x.a0,x.a1,v,x.a3⟩
  | _=>⟨x.a0,x.a1,x.a2,v⟩
def Bs.put (x:Bs) (k:Nat) (v:Bool):Bs:=match k with
  | 0=>⟨v,x.a1⟩
  | _=>⟨x.a0,v⟩
theorem Bk.put_put (x:Bk) (u v:Int):∀ k:Nat,k<4→(x.put k u).put k v=x.put k v
  | 0,_=>rfl
  | 1,_=>rfl
  | 2,_=>rfl
  | 3,_=>rfl
  | k+4,h=>by omega
theorem Bs.put_put (x:Bs) (u v:Bool):∀ k:Nat,k<2→(x.put k u).put k v=x.put k v
  | 0,_=>rfl
  | 1,_=>rfl
  | k+2,h=>by omega
def So (nb k:Nat) (v:Int) (p:Ax×BR):Ax×BR :=
  if k<nb then(⟨p.1.holds.put k v,p.1.turns,p.1.spares⟩,⟨p.2.number+min v 1,p.2.sum+v⟩)
  else if k<2*nb then(⟨p.1.holds,p.1.turns.put (k-nb) v,p.1.spares⟩,⟨p.2.number+min (v+1) 1,p.2.sum⟩)
  else(⟨p.1.holds,p.1.turns,p.1.spares.put (k-2*nb) (v == 1)⟩,⟨p.2.number+v,p.2.sum⟩)
section
variable {σ:Type} (see:σ→Ax→BR→Option σ)
structure P9 (c:BR) (k:Nat):Prop where
  n0:0≤c.number
  n1:c.number≤k
  s0:0≤c.sum
  s1:c.sum≤2*k
theorem P9.step {nb k:Nat} {v:Int} {p:Ax×BR} (h:P9 p.2 k) (h0:k<nb→0≤v∧v≤2) (h1 : ¬ k<nb→k<2*nb→-1≤v) (h2 : ¬ k<2*nb→0≤v∧v≤1):P9 (So nb k v p).2 (k+1):=by
  obtain⟨a,b,c,d⟩:=h
  unfold So
  by_cases c1:k<nb
  · have:=h0 c1
    simp only [c1,if_true]
    constructor <;> simp only <;> omega
  · by_cases c2:k<2*nb
    · have:=h1 c1 c2
      simp only [c1,c2,if_true,if_false]
      constructor <;> simp only <;> omega
    · have:=h2 c2
      simp only [c1,c2,if_false]
      constructor <;> simp only <;> omega
end
end Go.Proofs.YtokchpjijlebiaaGreat
namespace Go.Proofs.YtokchpjijlebiaaGreat
open Go Go.RowKit
def SW (b:Bool):Int:=if b then 1 else 0
def enc (a:Aw):List Int:=a.holds++a.turns++a.spares.map SW
def MP (a:Aw):Int:=(a.holds.map fun h=>min h 1).sum+(a.turns.map fun t=>min (t+1) 1).sum+(a.spares.map SW).sum
def MQ (a:Aw):Int:=a.holds.sum
def QT:List Int→List Int→Bool
  | x::xs,y::ys=>if x=y then QT xs ys else decide (x<y)
  | _,_=>false
def F2 (a b:Aw):Bool:=if MP a=MP b then(if MQ a=MQ b then QT (enc a) (enc b) else decide (MQ a<MQ b)) else decide (MP a<MP b)
theorem JA:∀ x:List Int,QT x x=false
  | []=>rfl
  | x::xs=>by rw [QT,if_pos rfl,JA xs]
end Go.Proofs.YtokchpjijlebiaaGreat
namespace Go.Proofs.YtokchpjijlebiaaGreat
open Go Go.RowKit
theorem Hl {α:Type} (f:α→Int):∀ (l:List α)(b g:Int),l.foldl (fun b m=>max b (f m)) b≤g↔b≤g∧∀ m∈l,f m≤g
  | [],b,g=>by simp
  | m::l,b,g=>by
    rw [List.foldl_cons,Hl f l]
    simp only [List.mem_cons,forall_eq_or_imp]
    constructor
    · rintro⟨h1,h2⟩; exact⟨by omega,by omega,h2⟩
    · rintro⟨h1,h2,h3⟩; exact⟨by omega,h3⟩
theorem Fo {m e:Int}:∀ {l:List Rg} {to_:Int},e≤Ef m to_ l↔e≤to_∧∀ p∈l,p.lo>m→e≤p.hi
  | [],to_=>by simp [Ef]
  | p::r,to_=>by
    show e≤Ef m (if p.lo>m then min to_ p.hi else to_) r↔_
    rw [Fo]
    simp only [List.mem_cons,forall_eq_or_imp]
    by_cases h:p.lo>m
    · simp only [h,if_true,true_implies]
      constructor
      · rintro⟨h1,h2⟩; exact⟨by omega,by omega,h2⟩
      · rintro⟨h1,h2,h3⟩; exact⟨by omega,h3⟩
    · simp only [h,if_false,false_implies,true_and]
theorem Qg {fr to_ g:Int} {l:List Rg}:WR fr to_ l≤g↔0≤g∧∀ m∈FU fr to_ l,Ef m to_ l-m≤g:=Hl _ _ _ _
theorem Nd (fr to_:Int) (l:List Rg):0≤WR fr to_ l:=(Qg.1 (Int.le_refl _)).1
theorem JB (m to_:Int) (l:List Rg):Ef m to_ l≤to_:=(Fo.1 (Int.le_refl _)).1
theorem Ra {fr to_:Int} {l:List Rg} (h:fr≤to_):WR fr to_ l≤to_-fr:=Qg.2 ⟨by omega,fun m hm=>by
  have:=Lc h hm
  have:=JB m to_ l
  omega⟩
theorem LU {fr to_ m:Int} (h0:fr≤m) (h1:m≤to_):∀ l:List Rg,∃ x∈FU fr to_ l,x≤m∧fr≤x∧∀ p∈l,p.lo≤m→p.lo≤x
  | []=>⟨fr,by simp [FU],h0,Int.le_refl _,by simp⟩
  | p::r=>by
    obtain⟨x,hx,h2,h3,h4⟩:=LU h0 h1 r
    have sub:∀ z∈FU fr to_ r,z∈FU fr to_ (p::r):=fun z hz=>by
      unfold FU at hz ⊢
      rcases List.mem_cons.1 hz with rfl | hz
      · simp
      · obtain⟨q,hq,rfl⟩:=List.mem_map.1 hz
        rw [List.mem_filter] at hq
        exact List.mem_cons_of_mem _ (List.mem_map_of_mem (List.mem_filter.2 ⟨List.mem_cons_of_mem _ hq.1,hq.2⟩))
    by_cases hp:x<p.lo∧p.lo≤m
    · refine⟨p.lo,?_,hp.2,by omega,fun q hq hqm=>?_⟩
      · unfold FU
        refine List.mem_cons_of_mem _ (List.mem_map_of_mem (List.mem_filter.2 ⟨by simp,?_⟩))
        rw [Bool.and_eq_true,decide_eq_true_eq,decide_eq_true_eq]
        omega
      · rcases List.mem_cons.1 hq with rfl | hq
        · exact Int.le_refl _
        · have:=h4 q hq hqm; omega
    · refine⟨x,sub x hx,h2,h3,fun q hq hqm=>?_⟩
      rcases List.mem_cons.1 hq with rfl | hq
      · omega
      · exact h4 q hq hqm
theorem S0 {fr to_ m:Int} {l:List Rg} (h0:fr≤m) (h1:m≤to_):Ef m to_ l-m≤WR fr to_ l:=by
  obtain⟨x,hx,h2,h3,h4⟩:=LU h0 h1 l
  have:=(Qg.1 (Int.le_refl (WR fr to_ l))).2 x hx
  have:Ef m to_ l≤Ef x to_ l:=Fo.2 ⟨JB _ _ _,fun p hp hpx=>by
    rcases Int.lt_or_le m p.lo with h | h
    · exact(Fo.1 (Int.le_refl (Ef m to_ l))).2 p hp h
    · have:=h4 p hp h; omega⟩
  omega
def SR (l l':List Rg):Prop:=∀ p∈l,∃ p'∈l',p.lo≤p'.lo∧p'.hi≤p.hi
theorem SR.sub {l l':List Rg} (h:∀ p∈l,p∈l'):SR l l':=fun p hp=>⟨p,h p hp,Int.le_refl _,Int.le_refl _⟩
theorem S1 {fr to_ fr' to':Int} {l l':List Rg} (h:SR l l') (h0:fr≤fr') (h1:fr'≤to') (h2:to'≤to_):WR fr' to' l'≤WR fr to_ l:=Qg.2 ⟨Nd _ _ _,fun m hm=>by
  have hb:=Lc h1 hm
  have:=S0 (fr:=fr) (to_:=to_) (m:=m) (l:=l) (by omega) (by omega)
  have:Ef m to' l'≤Ef m to_ l:=Fo.2 ⟨Int.le_trans (JB _ _ _) h2,fun p hp hpm=>by
    obtain⟨p',hp',h3,h4⟩:=h p hp
    have:=(Fo.1 (Int.le_refl (Ef m to' l'))).2 p' hp' (by omega)
    omega⟩
  omega⟩
def maxL:List Int→Int
  | []=>0
  | x::xs=>xs.foldl (fun b x=>max b x) x
def maxW (r:Af) (a:Aw):Int:=maxL (Eu r a)
theorem NQ {l:List Int} {g:Int} (h:l≠[]):maxL l≤g↔∀ w∈l,w≤g:=by
  cases l with
  | nil=>exact absurd rfl h
  | cons x xs =>
    unfold maxL
    rw [Hl (fun x=>x)]
    simp
theorem Gt (r:Af) (a:Aw):Eu r a≠[]:=by
  unfold Eu
  rw [List.range_succ]; simp
theorem Qh {r:Af} {a:Aw} {g:Int}:maxW r a≤g↔∀ w∈Eu r a,w≤g:=NQ (Gt r a)
theorem L6 {r:Af} {a:Aw} {w:Int} (h:w∈Eu r a):0≤w:=by
  obtain⟨k,_,rfl⟩:=List.mem_map.1 h
  exact Nd _ _ _
theorem LV {r:Af} (V:Dk r) (a:Aw):0≤maxW r a∧maxW r a≤r.to_-r.fr:=by
  constructor
  · have h:=Gt r a
    obtain⟨w,hw⟩:=List.exists_mem_of_ne_nil _ h
    exact Int.le_trans (L6 hw) (Qh.1 (Int.le_refl _) w hw)
  · refine Qh.2 fun w hw=>?_
    obtain⟨k,_,rfl⟩:=List.mem_map.1 hw
    exact Ra V.looked.2.1
theorem Nf (x:List Int) (hx:x.length≤100):∀ (n i:Nat)(b:Int),x.length<n+i→i≤x.length→Bq n x (i:Int) b=some ((x.drop i).foldl (fun b x=>max b x) b)
  | 0,i,b,h,hi=>by omega
  | n+1,i,b,h,hi=>by
    rw [Bq,Br]
    by_cases hxi:i<x.length
    · simp only [hxi,decide_true,cond_true]
      rw [AB _ _ hxi,Option.bind_some,CY i (by omega),Nf x hx n (i+1) _ (by omega) (by omega),A8 hxi,List.foldl_cons]
      rw [show(if x[i]>b then x[i] else b)=max b x[i] by omega]
    · have:i=x.length:=by omega
      simp [this]
theorem QB (n:Nat) (l:List Int) (hn:101<n) (h:l≠[]) (hl:l.length≤100):Da n l=some (maxL l):=by
  cases l with
  | nil=>exact absurd rfl h
  | cons x xs =>
    unfold Da D0
    have e:=Nf (x::xs) hl n 1 x (by omega) (by simp)
    rw [decide_eq_false (by rw [List.length_cons]; omega),cond_false]
    show Option.bind (Option.bind (some x) _) _=_
    rw [Option.bind_some]
    rw [show((1:Nat):Int)=1 from rfl] at e
    rw [e]
    rfl
end Go.Proofs.YtokchpjijlebiaaGreat
namespace Go.Proofs.YtokchpjijlebiaaGreat
open Go Go.RowKit
end Go.Proofs.YtokchpjijlebiaaGreat
namespace Go.Proofs.YtokchpjijlebiaaGreat
open Go Go.RowKit
structure QU (p q:Bg×A1):Prop where
  stop:p.1.stop=q.1.stop
  turned:p.1.turned=q.1.turned
  tm:p.1.tm≤q.1.tm
  turn:p.2.turn≤q.2.turn
  len:p.2.legs.length=q.2.legs.length
  legs:∀ (k:Nat)(d d':Int),p.2.legs[k]? = some d→q.2.legs[k]? = some d'→d≤d'
def G9 (st:Int) (p:Bg×A1) (k:Int):Option Int:=Dd (Cm st p.1.turned p.2.turn p.2.legs 40 p.1.tm p.1.stop) k
theorem QU.at {p q:Bg×A1} (h:QU p q) {st:Int} (ht:2*p.1.turned+1<st) (k:Int):(G9 st p k=none∧G9 st q k=none)∨∃ a b,G9 st p k=some a∧G9 st q k=some b∧a≤b:=by
  unfold G9
  rw [← h.stop,← h.turned]
  exact KB ht h.len h.legs h.turn 40 _ _ _ k h.tm
theorem F5 {st:Int} {p:(Bg×A1)×(Bg×A1)} {k:Int} {x:Rg}:LP st 40 p k=some x↔G9 st p.1 k=some x.lo∧G9 st p.2 k=some x.hi:=by
  unfold LP G9
  cases Dd (Cm st p.1.1.turned p.1.2.turn p.1.2.legs 40 p.1.1.tm p.1.1.stop) k with
  | none=>simp
  | some a =>
    cases Dd (Cm st p.2.1.turned p.2.2.turn p.2.2.legs 40 p.2.1.tm p.2.1.stop) k with
    | none=>simp
    | some b =>
      simp only [Option.some.injEq]
      constructor
      · rintro rfl; exact⟨rfl,rfl⟩
      · rintro⟨h1,h2⟩; cases x; simp_all
theorem Ld {st:Int} {p p':(Bg×A1)×(Bg×A1)} (h1:QU p.1 p'.1) (h2:QU p'.2 p.2) (t1:2*p.1.1.turned+1<st) (t2:2*p'.2.1.turned+1<st) {k:Int} {x:Rg} (h:LP st 40 p k=some x):∃ x',LP st 40 p' k=some x'∧x.lo≤x'.lo∧x'.hi≤x.hi:=by
  obtain⟨a1,a2⟩:=F5.1 h
  rcases h1.at t1 k with⟨b1,_⟩ | ⟨a,b,b1,b2,b3⟩
  · rw [b1] at a1; cases a1
  · rcases h2.at t2 k with⟨_,c1⟩ | ⟨c,d,c1,c2,c3⟩
    · rw [c1] at a2; cases a2
    · rw [b1] at a1; cases a1
      rw [c2] at a2; cases a2
      exact⟨⟨b,c⟩,F5.2 ⟨b2,c1⟩,b3,c3⟩
structure Qi (r x:Af):Prop where
  ll:x.legs.length=r.legs.length
  legs:∀ (i:Nat)(a b:Rg),r.legs[i]? = some a→x.legs[i]? = some b→a.lo≤b.lo∧b.lo≤b.hi∧b.hi≤a.hi
  turn:r.turn.lo≤x.turn.lo∧x.turn.lo≤x.turn.hi∧x.turn.hi≤r.turn.hi
  lb:x.buses.length=r.buses.length
  buses:∀ (i:Nat)(a b:C6),r.buses[i]? = some a→x.buses[i]? = some b→a.stop=b.stop∧a.tm.lo≤b.tm.lo∧b.tm.lo≤b.tm.hi∧b.tm.hi≤a.tm.hi
  spares:x.spares=r.spares
  unit:x.unit=r.unit
  gap:x.gap=r.gap
  fr:x.fr=r.fr
  to_:x.to_=r.to_
theorem Qi.valid {r x:Af} (h:Qi r x) (V:Dk r):Dk x:=by
  refine⟨by rw [h.lb]; exact V.nb,by rw [h.spares]; exact V.ns,by rw [h.ll]; exact V.odd,by rw [h.ll]; exact V.nl,?_,by rw [h.unit]; exact V.unit,by rw [h.gap]; exact V.gap,by rw [h.fr,h.to_]; exact V.looked,fun b hb=>?_,fun b hb=>?_,?_⟩
  · have:=V.turn; have:=h.turn; omega
  · obtain⟨i,hi,rfl⟩:=List.mem_iff_getElem.1 hb
    have hi':i<r.legs.length:=by rw [← h.ll]; exact hi
    have:=h.legs i _ _ (List.getElem?_eq_getElem hi') (List.getElem?_eq_getElem hi)
    have:=V.legs _ (List.getElem_mem hi')
    omega
  · obtain⟨i,hi,rfl⟩:=List.mem_iff_getElem.1 hb
    have hi':i<r.buses.length:=by rw [← h.lb]; exact hi
    have:=h.buses i _ _ (List.getElem?_eq_getElem hi') (List.getElem?_eq_getElem hi)
    have:=V.buses _ (List.getElem_mem hi')
    have:=h.ll
    omega
  · rw [h.spares,h.ll]; exact V.spares
theorem Qi.acts {r x:Af} (h:Qi r x) (a:Aw):Fc x a=Fc r a:=by
  unfold Fc
  rw [h.lb,h.spares]
  congr 1
  rw [Bool.eq_iff_iff,List.all_eq_true,List.all_eq_true]
  have key:∀ i,i<r.buses.length→HY x a i=HY r a i:=fun i hi=>by
    have hi':i<x.buses.length:=by rw [h.lb]; exact hi
    have:=(h.buses i _ _ (List.getElem?_eq_getElem hi) (List.getElem?_eq_getElem hi')).1
    unfold HY
    rw [Bv _ _ hi,Bv _ _ hi',this,h.ll]
  constructor
  · intro H i hi; rw [← key i (by simpa using hi)]; exact H i hi
  · intro H i hi; rw [key i (by simpa using hi)]; exact H i hi
theorem Qi.legsLo {r x:Af} (h:Qi r x):∀ (k:Nat)(d d':Int),(r.legs.map Rg.lo)[k]? = some d→(x.legs.map Rg.lo)[k]? = some d'→d≤d':=fun k d d' h1 h2=>by
  rw [List.getElem?_map] at h1 h2
  obtain⟨a,ha,rfl⟩:=Option.map_eq_some_iff.1 h1
  obtain⟨b,hb,rfl⟩:=Option.map_eq_some_iff.1 h2
  exact(h.legs k a b ha hb).1
theorem Qi.legsHi {r x:Af} (h:Qi r x):∀ (k:Nat)(d d':Int),(x.legs.map Rg.hi)[k]? = some d→(r.legs.map Rg.hi)[k]? = some d'→d≤d':=fun k d d' h1 h2=>by
  rw [List.getElem?_map] at h1 h2
  obtain⟨a,ha,rfl⟩:=Option.map_eq_some_iff.1 h1
  obtain⟨b,hb,rfl⟩:=Option.map_eq_some_iff.1 h2
  exact(h.legs k b a hb ha).2.2
theorem Qi.dom {r x:Af} (h:Qi r x) (V:Dk r) {a:Aw} (A:Hj r a) (k:Nat):SR (EL r a k) (EL x a k):=by
  intro p hp
  have hV:=h.valid V
  unfold EL at hp ⊢
  obtain⟨P,hP,hs⟩:=List.mem_filterMap.1 hp
  rw [h.ll]
  unfold QZ at hP
  rcases List.mem_append.1 hP with hP | hP
  · obtain⟨i,hi,rfl⟩:=List.mem_map.1 hP
    have hi:i<r.buses.length:=by simpa using hi
    have hi':i<x.buses.length:=by rw [h.lb]; exact hi
    have hb:=h.buses i _ _ (List.getElem?_eq_getElem hi) (List.getElem?_eq_getElem hi')
    have o1:=(NP GL.low V A i hi).t
    have ht:=h.turn
    have L1:QU (Fm r a Rg.lo i) (Fm x a Rg.lo i):=by
      refine⟨?_,rfl,?_,ht.1,by simp [Fm,h.ll],h.legsLo⟩
      · simp only [Fm,Bv _ _ hi,Bv _ _ hi']; exact hb.1
      · simp only [Fm,Bv _ _ hi,Bv _ _ hi',h.unit]; omega
    have L2:QU (Fm x a Rg.hi i) (Fm r a Rg.hi i):=by
      refine⟨?_,rfl,?_,ht.2.2,by simp [Fm,h.ll],h.legsHi⟩
      · simp only [Fm,Bv _ _ hi,Bv _ _ hi']; exact hb.1.symm
      · simp only [Fm,Bv _ _ hi,Bv _ _ hi',h.unit]; omega
    obtain⟨x',e1,e2,e3⟩:=Ld (p:=(Fm r a Rg.lo i,Fm r a Rg.hi i)) (p':=(Fm x a Rg.lo i,Fm x a Rg.hi i)) L1 L2 o1 o1 hs
    refine⟨x',List.mem_filterMap.2 ⟨_,List.mem_append_left _ (List.mem_map_of_mem (List.mem_range.2 hi')),e1⟩,e2,e3⟩
  · obtain⟨j,hj,hc⟩:=List.mem_filterMap.1 hP
    split at hc
    · rename_i hsp
      cases hc
      have hj:j<r.spares.length:=by simpa using hj
      have hj':j<x.spares.length:=by rw [h.spares]; exact hj
      have o1:=(P8 GL.low V j hj).t
      have L1:QU (KD r Rg.lo j) (KD x Rg.lo j):=⟨by simp [KD,h.spares],rfl,by simp [KD,h.spares],Int.le_refl _,by simp [KD,h.ll],h.legsLo⟩
      have L2:QU (KD x Rg.hi j) (KD r Rg.hi j):=⟨by simp [KD,h.spares],rfl,by simp [KD,h.spares],Int.le_refl _,by simp [KD,h.ll],h.legsHi⟩
      obtain⟨x',e1,e2,e3⟩:=Ld (p:=(KD r Rg.lo j,KD r Rg.hi j)) (p':=(KD x Rg.lo j,KD x Rg.hi j)) L1 L2 o1 o1 hs
      refine⟨x',List.mem_filterMap.2 ⟨_,List.mem_append_right _ (List.mem_filterMap.2 ⟨j,List.mem_range.2 hj',by rw [if_pos hsp]⟩),e1⟩,e2,e3⟩
    · cases hc
def Qj (v w:List Int):Prop:=v.length=w.length∧∀ (s:Nat)(x y:Int),v[s]? = some x→w[s]? = some y→x≤y
theorem O9 {r x:Af} {a b:Aw} (hl:x.legs.length=r.legs.length) (h:∀ k<r.legs.length+1,WR x.fr x.to_ (EL x b k)≤WR r.fr r.to_ (EL r a k)):Qj (Eu x b) (Eu r a):=by
  unfold Eu
  refine⟨by simp [hl],fun s u v hu hv=>?_⟩
  rw [List.getElem?_map] at hu hv
  obtain⟨i,hi,rfl⟩:=Option.map_eq_some_iff.1 hu
  obtain⟨j,hj,rfl⟩:=Option.map_eq_some_iff.1 hv
  have hs:s<r.legs.length+1:=by
    rcases Nat.lt_or_ge s (r.legs.length+1) with h' | h'
    · exact h'
    · rw [List.getElem?_eq_none (by simpa using h')] at hj; cases hj
  rw [List.getElem?_range hs] at hj
  rw [hl,List.getElem?_range hs] at hi
  cases hi; cases hj
  exact h s hs
theorem Qj.maxL {v w:List Int} (h:Qj v w) (hv:v≠[]) (hw:w≠[]):maxL v≤maxL w:=(NQ hv).2 fun x hx=>by
  obtain⟨i,hi⟩:=List.mem_iff_getElem?.1 hx
  have hiv:i<v.length:=by
    rcases Nat.lt_or_ge i v.length with h' | h'
    · exact h'
    · rw [List.getElem?_eq_none h'] at hi; cases hi
  have hiw:i<w.length:=by rw [← h.1]; exact hiv
  have:=h.2 i x _ hi (List.getElem?_eq_getElem hiw)
  have:=(NQ hw).1 (Int.le_refl _) _ (List.getElem_mem hiw)
  omega
theorem Qi.worsts {r x:Af} (h:Qi r x) (V:Dk r) {a:Aw} (A:Hj r a):Qj (Eu x a) (Eu r a) :=
  O9 h.ll fun k _=>by
    rw [h.fr,h.to_]
    exact S1 (h.dom V A k) (Int.le_refl _) V.looked.2.1 (Int.le_refl _)
theorem Qi.maxW {r x:Af} (h:Qi r x) (V:Dk r) {a:Aw} (A:Hj r a):maxW x a≤maxW r a:=(h.worsts V A).maxL (Gt _ _) (Gt _ _)
end Go.Proofs.YtokchpjijlebiaaGreat
namespace Go.Proofs.YtokchpjijlebiaaGreat
open Go Go.RowKit
end Go.Proofs.YtokchpjijlebiaaGreat
namespace Go.Proofs.YtokchpjijlebiaaGreat
open Go Go.RowKit
def EM (st:Nat) (p:Bg×A1):List Int:=(List.range st).map fun(k:Nat)=>(G9 (st:Int) p k).getD (-1)
def KE (out:List Int) (pl:List (Int×Int)):List Int:=pl.foldl (fun o p=>o.set p.1.toNat p.2) out
theorem Jp:∀ (pl:List (Int×Int))(out:List Int),(KE out pl).length=out.length
  | [],_=>rfl
  | p::r,out=>by
    show(KE (out.set p.1.toNat p.2) r).length=_
    rw [Jp r]; simp
theorem LW:∀ (pl:List (Int×Int))(out:List Int)(k:Nat),(pl.map Prod.fst).Nodup→(∀ p∈pl,0≤p.1)→k<out.length→(KE out pl)[k]? = some ((Dd pl (k:Int)).getD out[k]!)
  | [],out,k,_,_,hk=>by
    show out[k]? = _
    rw [List.getElem?_eq_getElem hk,Bv _ _ hk]; rfl
  | p::r,out,k,hn,h0,hk=>by
    show(KE (out.set p.1.toNat p.2) r)[k]? = _
    rw [List.map_cons,List.nodup_cons] at hn
    rw [LW r _ k hn.2 (fun q hq=>h0 q (List.mem_cons_of_mem _ hq)) (by simpa using hk),Dd]
    have hp:=h0 p (by simp)
    by_cases hpk:p.1=(k:Int)
    · have hr:Dd r (k:Int)=none:=JF fun q hq hqk=>hn.1 (by rw [hpk,← hqk]; exact List.mem_map_of_mem hq)
      rw [hr,if_pos hpk,Bv _ _ (by simpa using hk),show p.1.toNat=k by omega,List.getElem_set_self]
      rfl
    · rw [if_neg hpk,Bv _ _ (by simpa using hk),Bv _ _ hk,List.getElem_set_ne (by omega)]
theorem Ng:∀ (n i:Nat)(out:List Int),out.length<n+i→i≤out.length→out.length≤20→(∀ k,k<i→out[k]? = some (-1))→CS n out (i:Int)=some (List.replicate out.length (-1))
  | 0,i,out,h,hi,_,_=>by omega
  | n+1,i,out,h,hi,hb,hk=>by
    rw [CS,Br]
    by_cases hx:i<out.length
    · simp only [hx,decide_true,cond_true]
      rw [AB _ _ hx,Option.bind_some,O4 _ _ _ hx,Option.bind_some,CY i (by omega),Ng n (i+1) _ (by simp; omega) (by simp; omega) (by simpa using hb) fun k hk'=>?_]
      · simp
      · rw [List.getElem?_set]
        by_cases hik:i=k
        · subst hik; simp [hx]
        · rw [if_neg hik]; exact hk k (by omega)
    · simp only [hx,decide_false,cond_false,Option.some.injEq]
      apply List.ext_getElem?
      intro k
      by_cases hks:k<out.length
      · rw [hk k (by omega),List.getElem?_replicate,if_pos hks]
      · rw [List.getElem?_eq_none (by omega),List.getElem?_eq_none (by simp; omega)]
theorem Nh (r:Af) (hl:r.legs.length≤20) (hodd:r.legs.length % 2=1) (turned turn:Int) (legs:List Int) (hq:Qd turn legs) (hql:legs.length=r.legs.length) (ht:2*turned+1<(r.legs.length:Int)+1):∀ (n:Nat)(tm s:Int)(out:List Int),out.length=r.legs.length+1→0≤tm→tm+300*n≤1000000000→0≤s→s≤(r.legs.length:Int)+1→(r.legs.length:Int)+1-s<n →
    BI n r turned turn legs out s tm=some (KE out (Cm ((r.legs.length:Int)+1) turned turn legs n tm s))
  | 0,tm,s,out,_,_,_,h1,h2,h3=>by omega
  | n+1,tm,s,out,ho,h0,hb,hs,h1,h2=>by
    have IH:=Nh r hl hodd turned turn legs hq hql ht n
    obtain⟨t0,t1,hq1,hq2⟩:=hq
    rw [BI,Cm,ho]
    by_cases hc:0≤s∧s<(r.legs.length:Int)+1
    · obtain⟨k,rfl⟩:∃ k:Nat,s=k:=⟨s.toNat,by omega⟩
      have hk:k<out.length:=by omega
      rw [decide_eq_true (by omega),cond_true,if_pos hc,AB _ _ hk,Option.bind_some,O4 _ _ _ hk,Option.bind_some]
      show _=some (KE (out.set ((k:Int)).toNat tm) _)
      rw [Int.toNat_natCast]
      by_cases hst:(k:Int)=turned
      · rw [if_pos hst,beq_iff_eq.2 hst,cond_true,Jn n r hl,Option.bind_some]
        rw [HU (x:=2*_) (by omega) (by omega),HU (x:=2*(((r.legs.length+1) / 2:Nat):Int)-1) (by omega) (by omega),HU (x:=_-(k:Int)) (by omega) (by omega),HU (x:=tm+turn) (by omega) (by omega)]
        rw [show 2*(((r.legs.length+1) / 2:Nat):Int)-1-(k:Int)=(r.legs.length:Int)+1-1-(k:Int) by omega]
        exact IH _ _ _ (by simpa using ho) (by omega) (by omega) (by omega) (by omega) (by omega)
      · rw [if_neg hst,beq_eq_false_iff_ne.2 hst,cond_false]
        by_cases hsl:k<legs.length
        · have hd:=hq2 _ (List.getElem_mem hsl)
          rw [decide_eq_true (by omega),cond_true,AB _ _ hsl,Option.bind_some,List.getElem?_eq_getElem hsl]
          simp only []
          rw [HU (x:=tm+_) (by omega) (by omega),CY k (by omega),IH _ _ _ (by simpa using ho) (by omega) (by omega) (by omega) (by omega) (by omega)]
          rfl
        · rw [decide_eq_false (by omega),cond_false,List.getElem?_eq_none (by omega)]
          simp only []
          have e:(k:Int)+1=(r.legs.length:Int)+1:=by omega
          rw [HU (x:=(k:Int)+1) (by omega) (by omega),e]
          cases n with
          | zero=>omega
          | succ n =>
            rw [BI,List.length_set,ho,decide_eq_false (by omega),cond_false]
            rfl
    · rw [decide_eq_false (by omega),cond_false,if_neg hc]
      rfl
theorem Jq (n:Nat) (r:Af) (V:Dk r) (p:Bg×A1) (ok:E3 r p) (hn:60≤n) (hn2:n≤900):Fq n r p.1.stop p.1.tm p.1.turned p.2.turn p.2.legs=some (EM (r.legs.length+1) p):=by
  have:=V.nl
  have t0:=ok.tm0
  have t1:=ok.tm1
  have s0:=ok.s0
  have s1:=ok.s1
  unfold Fq
  rw [FT n r (by omega),Option.bind_some]
  have eM:mk ((r.legs.length:Int)+1) (0:Int)=some (List.replicate (r.legs.length+1) 0):=by
    rw [show((r.legs.length:Int)+1)=((r.legs.length+1:Nat):Int) by omega]; exact SU _ _ (by omega)
  rw [eM,Option.bind_some]
  have e1:=Ng n 0 (List.replicate (r.legs.length+1) 0) (by simp; omega) (by omega) (by simp; omega) (fun k hk=>by omega)
  rw [Int.natCast_zero,List.length_replicate] at e1
  rw [e1,Option.bind_some,Nh r (by omega) V.odd p.1.turned p.2.turn p.2.legs ok.q ok.len ok.t n p.1.tm p.1.stop _ (by simp) t0 (by omega) s0 s1 (by omega),Option.bind_some,Option.some.injEq]
  apply List.ext_getElem?
  intro k
  unfold EM
  by_cases hk:k<r.legs.length+1
  · rw [LW _ _ k (Gs ok.t n _ _) (fun q hq=>(GJ ok.t n _ _ q hq).2.1) (by simpa using hk),List.getElem?_map,List.getElem?_range hk,Option.map_some,Option.some.injEq,QY _ _ _ hk]
    unfold G9
    rw [Hk ok.t n 40 _ _ (by omega) (by omega)]
    rfl
  · rw [List.getElem?_eq_none (by rw [Jp]; simp; omega),List.getElem?_eq_none (by simp; omega)]
theorem Ni (r:Af) (a:Aw) (t:Au) (V:Dk r) (S:HV r a t) (hok:∀ p∈CV r a t,E3 r p) (m:Nat) (hm:60≤m):∀ (n i:Nat)(x:List (List Int)),r.buses.length+m<n+i→n≤900→i≤r.buses.length→x.length=i →
    E4 n r a t x (i:Int)=some (x++((List.range r.buses.length).drop i).map (fun i=>EM (r.legs.length+1) (BT r a t i)))
  | 0,i,x,h,_,hi,_=>by omega
  | n+1,i,x,h,hn9,hi,h1=>by
    rw [E4,Br]
    have:=S.nb
    by_cases hx:i<r.buses.length
    · have q1:i<a.holds.length:=by rw [S.holds]; exact hx
      have q2:i<a.turns.length:=by rw [S.turns]; exact hx
      have q3:i<t.tm.length:=by rw [S.tm]; exact hx
      have q4:i<t.turns.length:=by rw [S.tt]; exact hx
      have q5:i<t.legs.length:=by rw [S.legs]; omega
      have q6:i<(List.range r.buses.length).length:=by simpa using hx
      obtain⟨b1,b2⟩:=IU (S.hold _ (List.getElem_mem q1)).1 (S.hold _ (List.getElem_mem q1)).2 S.unit.1 S.unit.2
      have b3:=S.tms _ (List.getElem_mem q3)
      have hmem:BT r a t i∈CV r a t:=List.mem_append_left _ (List.mem_map_of_mem (List.mem_range.2 hx))
      have e:=Jq n r V _ (hok _ hmem) (by omega) (by omega)
      unfold BT at e
      simp only [Bv _ _ hx,Bv _ _ q1,Bv _ _ q2,Bv _ _ q3,Bv _ _ q4,Bv _ _ q5] at e
      simp only [hx,decide_true,cond_true,AB _ _ hx,AB _ _ q1,AB _ _ q2,AB _ _ q3,AB _ _ q4,AB _ _ q5,Option.bind_some]
      rw [HU (x:=a.holds[i]*r.unit) (by omega) (by omega),HU (by omega) (by omega),e,Option.bind_some,FO _ _ (by simp; omega),Option.bind_some]
      rw [CY i (by omega),Ni r a t V S hok m hm n (i+1) _ (by omega) (by omega) (by omega) (by simp; omega),A8 q6,List.append_assoc]
      simp only [List.getElem_range,List.map_cons,BT,Bv _ _ hx,Bv _ _ q1,Bv _ _ q2,Bv _ _ q3,Bv _ _ q4,Bv _ _ q5]
      rfl
    · have:i=r.buses.length:=by omega
      simp [this]
theorem Nj (r:Af) (a:Aw) (t:Au) (V:Dk r) (S:HV r a t) (hok:∀ p∈CV r a t,E3 r p) (m:Nat) (hm:60≤m):∀ (n i:Nat)(x:List (List Int)),r.spares.length+m<n+i→n≤900→i≤r.spares.length→x.length≤100+i →
    DL n r a t x (i:Int)=some (x++(((List.range r.spares.length).drop i).filterMap (Gd r a t)).map (EM (r.legs.length+1)))
  | 0,i,x,h,_,hi,_=>by omega
  | n+1,i,x,h,hn9,hi,h1=>by
    rw [DL,Br]
    have:=S.ns
    have:=S.nb
    by_cases hx:i<r.spares.length
    · have q1:i<a.spares.length:=by rw [S.spares]; exact hx
      have q5:r.buses.length+i<t.legs.length:=by rw [S.legs]; omega
      have q6:i<(List.range r.spares.length).length:=by simpa using hx
      simp only [hx,decide_true,cond_true,AB _ _ hx,AB _ _ q1,Option.bind_some]
      rw [A8 q6]
      simp only [List.getElem_range,List.filterMap_cons,Gd,Bv _ _ hx,Bv _ _ q1,Bv _ _ q5]
      have IH:=Nj r a t V S hok m hm n (i+1)
      cases hs:a.spares[i] with
      | true =>
        have hmem:(⟨(r.spares[i]).stop,(r.spares[i]).tm,-1⟩,⟨t.legs[r.buses.length+i],0⟩)∈CV r a t:=by
          refine List.mem_append_right _ (List.mem_filterMap.2 ⟨i,List.mem_range.2 hx,?_⟩)
          unfold Gd
          rw [Bv _ _ hx,Bv _ _ q1,Bv _ _ q5,hs]
          rfl
        have e:=Jq n r V _ (hok _ hmem) (by omega) (by omega)
        simp only [] at e
        simp only [cond_true,if_true]
        rw [HU (x:=((r.buses.length:Nat):Int)+(i:Int)) (by omega) (by omega),show((r.buses.length:Nat):Int)+(i:Int)=((r.buses.length+i:Nat):Int) by omega,AB _ _ q5,Option.bind_some,e,Option.bind_some,FO _ _ (by simp; omega),Option.bind_some]
        rw [CY i (by omega),IH _ (by omega) (by omega) (by omega) (by simp; omega),List.append_assoc]
        rfl
      | false =>
        simp only [cond_false]
        rw [CY i (by omega),IH _ (by omega) (by omega) (by omega) (by omega)]
        rfl
    · have:i=r.spares.length:=by omega
      have hd:(List.range r.spares.length).drop r.spares.length=[]:=List.drop_eq_nil_of_le (by simp)
      simp [this,hd]
theorem PA (n:Nat) (r:Af) (a:Aw) (t:Au) (V:Dk r) (S:HV r a t) (hok:∀ p∈CV r a t,E3 r p) (hn:80≤n) (hn2:n≤900):JV n r a t=some ((CV r a t).map (EM (r.legs.length+1))):=by
  have:=S.nb
  have:=S.ns
  have e1:=Ni r a t V S hok 60 (by omega) n 0 [] (by omega) hn2 (by omega) rfl
  have e2:=Nj r a t V S hok 60 (by omega) n 0 ((List.range r.buses.length).map fun i=>EM (r.legs.length+1) (BT r a t i)) (by omega) hn2 (by omega) (by simp; omega)
  simp only [Int.natCast_zero,List.nil_append,List.drop_zero] at e1 e2
  unfold JV
  simp only [e1,Option.bind_some,e2,CV,List.map_append,List.map_map]
  rfl
end Go.Proofs.YtokchpjijlebiaaGreat
namespace Go.Proofs.YtokchpjijlebiaaGreat
open Go Go.RowKit
def PB (r:Af) (x:Int):Bool:=decide (r.fr≤x∧x≤r.to_)
theorem HZ (r:Af) (s st:Nat) (hs:s<st) (ps:List (List Int)) (hps:∀ p∈ps,p.length=st) (hb:ps.length≤50):∀ (n i:Nat)(acc:List Int),ps.length<n+i→i≤ps.length→acc.length≤100+i →
    CI n r (s:Int) ps acc (i:Int)=some (acc++((ps.drop i).map fun p=>p[s]!).filter (PB r))
  | 0,i,acc,h,hi,_=>by omega
  | n+1,i,acc,h,hi,ha=>by
    rw [CI,Br]
    by_cases hx:i<ps.length
    · have hp:=hps _ (List.getElem_mem hx)
      have hsp:s<(ps[i]).length:=by omega
      simp only [hx,decide_true,cond_true]
      rw [AB _ _ hx,Option.bind_some,AB _ _ hsp,Option.bind_some,ED,Option.bind_some,A8 hx,List.map_cons,List.filter_cons,Bv _ _ hsp]
      show(bif PB r _ then _ else _)=_
      cases hin:PB r (ps[i])[s] with
      | true =>
        rw [cond_true,FO _ _ (by simp; omega),Option.bind_some,CY i (by omega),HZ r s st hs ps hps hb n (i+1) _ (by omega) (by omega) (by simp; omega)]
        simp
      | false =>
        rw [cond_false,CY i (by omega),HZ r s st hs ps hps hb n (i+1) _ (by omega) (by omega) (by omega)]
        simp
    · have:i=ps.length:=by omega
      simp [this]
theorem Le (o x:List Int) (y:Nat) (hy:y<o.length) (hb:x.length≤100):∀ (n j:Nat)(b:Bool),x.length<n+j→j≤x.length→CJ n o x (y:Int) (j:Int) b=some (b || decide (o[y]∈x.drop j))
  | 0,j,b,h,hj=>by omega
  | n+1,j,b,h,hj=>by
    rw [CJ,Br]
    by_cases hx:j<x.length
    · simp only [hx,decide_true,cond_true]
      have IH:=Le o x y hy hb n (j+1)
      cases b with
      | true =>
        rw [cond_true,CY j (by omega),IH true (by omega) (by omega)]
        simp
      | false =>
        rw [cond_false,AB _ _ hx,Option.bind_some,AB _ _ hy,Option.bind_some,CY j (by omega),IH _ (by omega) (by omega),A8 hx,Bool.false_or]
        congr 1
        by_cases he:x[j]=o[y]
        · rw [beq_iff_eq.2 he,Bool.true_or,decide_eq_true (List.mem_cons.2 (.inl he.symm))]
        · rw [beq_eq_false_iff_ne.2 he,Bool.false_or,decide_eq_decide,List.mem_cons]
          exact⟨.inr,fun h=>h.resolve_left fun q=>he q.symm⟩
    · have:j=x.length:=by omega
      simp [this]
theorem Lf (x:List Int) (v:Int) (hs:x.Pairwise (· < ·)) (hv:v ∉ x) (hb:x.length≤100):∀ (k n:Nat),k≤x.length→k<n→(∀ y∈x.drop k,v<y) →
    ∃ l,CK n (x.take k++v::x.drop k) (k:Int)=some l∧l.Pairwise (· < ·)∧(∀ y,y∈l↔y=v∨y∈x)∧l.length=x.length+1
  | 0,0,_,h,_=>by omega
  | 0,n+1,hk,_,hd=>by
    refine⟨v::x,?_,?_,fun y=>by simp,by simp⟩
    · rw [CK]; rfl
    · exact List.pairwise_cons.2 ⟨fun y hy=>hd y (by simpa using hy),hs⟩
  | k+1,0,_,h,_=>by omega
  | k+1,n+1,hk,hn,hd=>by
    have hkx:k<x.length:=by omega
    have hlen:(x.take (k+1)++v::x.drop (k+1)).length=x.length+1:=by simp; omega
    have g1:(x.take (k+1)++v::x.drop (k+1))[k+1]? = some v:=by
      rw [List.getElem?_append_right (by simp; omega)]
      simp [Nat.min_eq_left hk]
    have g0:(x.take (k+1)++v::x.drop (k+1))[k]? = some x[k]:=by
      rw [List.getElem?_append_left (by simp; omega),List.getElem?_take_of_lt (by omega),List.getElem?_eq_getElem hkx]
    rw [CK,decide_eq_true (by omega),cond_true,HU (x:=((k+1:Nat):Int)-1) (by omega) (by omega),show((k+1:Nat):Int)-1=(k:Int) by omega]
    simp only [RR,g1,g0,Option.bind_some]
    by_cases hlt:v<x[k]
    · have hu:upd (x.take (k+1)++v::x.drop (k+1)) ((k+1:Nat):Int) x[k]=some ((x.take (k+1)++v::x.drop (k+1)).set (k+1) x[k]):=O4 _ _ _ (by omega)
      have hu2:((x.take (k+1)++v::x.drop (k+1)).set (k+1) x[k]).set k v=x.take k++v::x.drop k:=by
        apply List.ext_getElem?
        intro j
        rw [List.getElem?_set,List.getElem?_set,List.length_set,hlen]
        rcases Nat.lt_trichotomy j k with hj | hj | hj
        · rw [if_neg (by omega),if_neg (by omega),List.getElem?_append_left (by simp; omega),List.getElem?_append_left (by simp; omega),List.getElem?_take_of_lt (by omega),List.getElem?_take_of_lt (by omega)]
        · subst hj
          rw [if_pos rfl,if_pos (by omega),List.getElem?_append_right (by rw [List.length_take]; omega)]
          simp [Nat.min_eq_left (Nat.le_of_lt hkx)]
        · rw [if_neg (by omega)]
          by_cases hj2:k+1=j
          · subst hj2
            rw [if_pos rfl,if_pos (by omega),List.getElem?_append_right (by simp; omega)]
            rw [show k+1-(x.take k).length=1 by simp; omega]
            simp
          · rw [if_neg hj2,List.getElem?_append_right (by simp; omega),List.getElem?_append_right (by simp; omega)]
            rw [show j-(x.take (k+1)).length=(j-k-2)+1 by simp; omega,show j-(x.take k).length=(j-k-1)+1 by simp; omega,List.getElem?_cons_succ,List.getElem?_cons_succ,List.getElem?_drop,List.getElem?_drop]
            congr 1; omega
      have hg:((x.take (k+1)++v::x.drop (k+1)).set (k+1) x[k])[k]? = some x[k]:=by
        rw [List.getElem?_set,if_neg (by omega),g0]
      rw [decide_eq_true hlt,cond_true,hu]
      simp only [Option.bind_some]
      rw [hg,Option.bind_some,O4 _ _ _ (by rw [List.length_set,hlen]; omega),Option.bind_some,hu2]
      refine Lf x v hs hv hb k n (by omega) (by omega) fun y hy=>?_
      rw [A8 hkx] at hy
      rcases List.mem_cons.1 hy with rfl | hy
      · exact hlt
      · exact hd y hy
    · rw [decide_eq_false hlt,cond_false]
      have hxv:x[k]<v:=by
        have:x[k]≠v:=fun q=>hv (by rw [← q]; exact List.getElem_mem hkx)
        omega
      refine⟨_,rfl,?_,fun y=>?_,hlen⟩
      · rw [List.pairwise_append,List.pairwise_cons]
        refine⟨hs.sublist (List.take_sublist _ _),⟨hd,hs.sublist (List.drop_sublist _ _)⟩,fun y hy z hz=>?_⟩
        have hyv:y<v:=by
          obtain⟨j,hj,rfl⟩:=List.mem_iff_getElem.1 hy
          rw [List.length_take] at hj
          rw [List.getElem_take]
          rcases Nat.lt_or_ge j k with h' | h'
          · have:=List.pairwise_iff_getElem.1 hs j k (by omega) hkx h'
            omega
          · have:j=k:=by omega
            subst this; exact hxv
        rcases List.mem_cons.1 hz with rfl | hz
        · exact hyv
        · have:=hd z hz; omega
      · rw [List.mem_append,List.mem_cons]
        have:=List.take_append_drop (k+1) x
        constructor
        · rintro(h | rfl | h)
          · exact .inr (List.mem_of_mem_take h)
          · exact .inl rfl
          · exact .inr (List.mem_of_mem_drop h)
        · rintro(rfl | h)
          · exact .inr (.inl rfl)
          · rw [← this] at h
            rcases List.mem_append.1 h with h | h
            · exact .inl h
            · exact .inr (.inr h)
theorem Ia (o:List Int) (ho:o.length≤20):∀ (n i:Nat)(x:List Int),o.length+30<n+i→i≤o.length→x.Pairwise (· < ·)→x.length≤i→∃ l,CL n o x (i:Int)=some l∧l.Pairwise (· < ·)∧(∀ y,y∈l↔y∈x∨y∈o.drop i)∧l.length≤o.length
  | 0,i,x,h,hi,_,_=>by omega
  | n+1,i,x,h,hi,hs,hl=>by
    rw [CL,Br]
    by_cases hx:i<o.length
    · simp only [hx,decide_true,cond_true]
      have e3:=Le o x i hx (by omega) n 0 false (by omega) (by omega)
      rw [Int.natCast_zero,List.drop_zero,Bool.false_or] at e3
      rw [e3,Option.bind_some]
      by_cases hm:o[i]∈x
      · rw [decide_eq_true hm,cond_true,CY i (by omega)]
        obtain⟨l,h1,h2,h3,h4⟩:=Ia o ho n (i+1) x (by omega) (by omega) hs (by omega)
        refine⟨l,h1,h2,fun y=>?_,h4⟩
        rw [h3,A8 hx,List.mem_cons]
        constructor
        · rintro(h | h)
          · exact .inl h
          · exact .inr (.inr h)
        · rintro(h | rfl | h)
          · exact .inl h
          · exact .inl hm
          · exact .inr h
      · rw [decide_eq_false hm,cond_false,AB _ _ hx,Option.bind_some,FO _ _ (by simp; omega),Option.bind_some]
        obtain⟨l0,g1,g2,g3,g4⟩:=Lf x o[i] hs hm (by omega) x.length n (Nat.le_refl _) (by omega) (by simp)
        rw [List.take_length,List.drop_length] at g1
        rw [List.length_append,List.length_singleton,HU (x:=((x.length+1:Nat):Int)-1) (by omega) (by omega),show((x.length+1:Nat):Int)-1=(x.length:Int) by omega,g1,Option.bind_some,CY i (by omega)]
        obtain⟨l,h1,h2,h3,h4⟩:=Ia o ho n (i+1) l0 (by omega) (by omega) g2 (by omega)
        refine⟨l,h1,h2,fun y=>?_,h4⟩
        rw [h3,g3,A8 hx,List.mem_cons]
        constructor
        · rintro((rfl | h) | h)
          · exact .inr (.inl rfl)
          · exact .inl h
          · exact .inr (.inr h)
        · rintro(h | rfl | h)
          · exact .inl (.inr h)
          · exact .inl (.inl rfl)
          · exact .inr h
    · have hi':i=o.length:=by omega
      have hd:o.drop i=[]:=List.drop_eq_nil_of_le (by omega)
      simp only [hx,decide_false,cond_false]
      exact⟨x,rfl,hs,fun y=>by rw [hd]; simp,by omega⟩
def HO:List Int→Int
  | a::b::r=>max (b-a) (HO (b::r))
  | _=>0
theorem Ib:∀ l:List Int,0≤HO l
  | []=>Int.le_refl _
  | [_]=>Int.le_refl _
  | a::b::r=>by
    have:=Ib (b::r)
    unfold HO
    omega
theorem Nk (l:List Int) (hb:l.length≤100) (hr:∀ x∈l,0≤x∧x≤10000):∀ (n i:Nat)(acc:Int),l.length+1<n+i→1≤i→(i≤l.length∨i=1)→0≤acc→E5 n l (i:Int) acc=some (max acc (HO (l.drop (i-1))))
  | 0,i,acc,h,h1,hi,_=>by omega
  | n+1,i,acc,h,h1,hi,h0=>by
    rw [E5,Br]
    by_cases hx:i<l.length
    · obtain⟨j,rfl⟩:∃ j,i=j+1:=⟨i-1,by omega⟩
      have hj:j<l.length:=by omega
      have b1:=hr _ (List.getElem_mem hx)
      have b2:=hr _ (List.getElem_mem hj)
      simp only [hx,decide_true,cond_true]
      rw [AB _ _ hx,Option.bind_some,HU (x:=((j+1:Nat):Int)-1) (by omega) (by omega),show((j+1:Nat):Int)-1=(j:Int) by omega,AB _ _ hj,Option.bind_some,HU (x:=l[j+1]-l[j]) (by omega) (by omega),CY (j+1) (by omega)]
      rw [Nk l hb hr n (j+1+1) _ (by omega) (by omega) (by omega) (by split <;> omega)]
      rw [show j+1-1=j by omega,show j+1+1-1=j+1 by omega,A8 hj,A8 hx]
      show some (max (if l[j+1]-l[j]>acc then l[j+1]-l[j] else acc) (HO (l[j+1]::l.drop (j+1+1))))=some (max acc (max (l[j+1]-l[j]) (HO (l[j+1]::l.drop (j+1+1)))))
      congr 1
      split <;> omega
    · simp only [hx,decide_false,cond_false,Option.some.injEq]
      have:HO (l.drop (i-1))=0:=by
        have hl:(l.drop (i-1)).length≤1:=by rw [List.length_drop]; omega
        cases hd:l.drop (i-1) with
        | nil=>rfl
        | cons a t =>
          cases t with
          | nil=>rfl
          | cons b t=>rw [hd] at hl; simp at hl
      rw [this]
      omega
def DA (r:Af) (a:Aw) (t:Au) (s:Nat):List Int:=r.fr::r.to_::(((CV r a t).map (EM (r.legs.length+1))).map fun p=>p[s]!).filter (PB r)
theorem Hm (n:Nat) (r:Af) (a:Aw) (t:Au) (V:Dk r) (S:HV r a t) (hok:∀ p∈CV r a t,E3 r p) (s:Nat) (hs:s<r.legs.length+1) (hn:90≤n) (hn2:n≤900) :
    ∃ l,Gb n r a t (s:Int)=some l∧l.Pairwise (· < ·)∧(∀ y,y∈l↔y∈DA r a t s)∧l.length≤20:=by
  have:=S.nb
  have:=S.ns
  have hlt:(CV r a t).length≤r.buses.length+r.spares.length:=by
    unfold CV
    rw [List.length_append,List.length_map,List.length_range]
    have:=List.length_filterMap_le (Gd r a t) (List.range r.spares.length)
    rw [List.length_range] at this
    omega
  unfold Gb
  rw [PA n r a t V S hok (by omega) hn2,Option.bind_some]
  have e1:=HZ r s (r.legs.length+1) hs ((CV r a t).map (EM (r.legs.length+1))) (fun p hp=>by
    obtain⟨q,_,rfl⟩:=List.mem_map.1 hp
    unfold EM; simp) (by rw [List.length_map]; omega) n 0 [r.fr,r.to_] (by rw [List.length_map]; omega) (by omega) (by simp)
  rw [Int.natCast_zero,List.drop_zero] at e1
  rw [e1,Option.bind_some]
  have hlen:([r.fr,r.to_]++(((CV r a t).map (EM (r.legs.length+1))).map fun p=>p[s]!).filter (PB r)).length≤20:=by
    rw [List.length_append]
    have:=List.length_filter_le (PB r) (((CV r a t).map (EM (r.legs.length+1))).map fun p=>p[s]!)
    rw [List.length_map,List.length_map] at this
    simp only [List.length_cons,List.length_nil]
    omega
  obtain⟨l,h1,h2,h3,h4⟩:=Ia _ hlen n 0 [] (by omega) (by omega) List.Pairwise.nil (by simp)
  rw [Int.natCast_zero] at h1
  rw [List.drop_zero] at h3
  rw [h1,Option.bind_some]
  exact⟨l,rfl,h2,fun y=>by rw [h3]; simp [DA],by omega⟩
theorem PC (n:Nat) (r:Af) (a:Aw) (t:Au) (V:Dk r) (S:HV r a t) (hok:∀ p∈CV r a t,E3 r p) (s:Nat) (hs:s<r.legs.length+1) (hn:90≤n) (hn2:n≤900) :
    ∃ l,JW n r a t (s:Int)=some (HO l)∧l.Pairwise (· < ·)∧∀ y,y∈l↔y∈DA r a t s:=by
  obtain⟨l,h1,h2,h3,h4⟩:=Hm n r a t V S hok s hs hn hn2
  refine⟨l,?_,h2,h3⟩
  have hlk:=V.looked
  unfold JW
  rw [h1,Option.bind_some]
  have e:=Nk l (by omega) (fun x hx=>by
    have:=(h3 x).1 hx
    unfold DA at this
    rw [List.mem_cons,List.mem_cons,List.mem_filter] at this
    rcases this with rfl | rfl | ⟨_,h⟩
    · omega
    · omega
    · unfold PB at h
      have:=of_decide_eq_true h
      omega) n 1 0 (by omega) (Nat.le_refl _) (.inr rfl) (Int.le_refl _)
  rw [show((1:Nat):Int)=1 from rfl,Nat.sub_self,List.drop_zero] at e
  rw [e,Option.bind_some,Option.some.injEq]
  have:=Ib l
  omega
end Go.Proofs.YtokchpjijlebiaaGreat
namespace Go.Proofs.YtokchpjijlebiaaGreat
open Go Go.RowKit
structure Gf (r:Af) (t:Au):Prop where
  tm:t.tm.length=r.buses.length
  tt:t.turns.length=r.buses.length
  legs:t.legs.length=r.buses.length+r.spares.length
  tms:∀ i<r.buses.length,(r.buses[i]!).tm.lo≤t.tm[i]!∧t.tm[i]!≤(r.buses[i]!).tm.hi
  tts:∀ i<r.buses.length,r.turn.lo≤t.turns[i]!∧t.turns[i]!≤r.turn.hi
  ll:∀ i<r.buses.length+r.spares.length,(t.legs[i]!).length=r.legs.length
  leg:∀ i<r.buses.length+r.spares.length,∀ (k:Nat)(x:Rg)(d:Int),r.legs[k]? = some x→(t.legs[i]!)[k]? = some d→x.lo≤d∧d≤x.hi
theorem Gf.sized {r:Af} {t:Au} (h:Gf r t) (V:Dk r) {a:Aw} (A:Hj r a):HV r a t:=by
  refine⟨by have:=V.nb; omega,by have:=V.ns; omega,A.holds,A.turns,A.spares,h.tm,h.tt,h.legs,fun x hx=>?_,V.unit,fun x hx=>?_⟩
  · obtain⟨i,hi,rfl⟩:=List.mem_iff_getElem.1 hx
    have:=A.hold i (by rw [← A.holds]; exact hi)
    rwa [Bv _ _ hi] at this
  · obtain⟨i,hi,rfl⟩:=List.mem_iff_getElem.1 hx
    have hib:i<r.buses.length:=by rw [← h.tm]; exact hi
    have:=h.tms i hib
    rw [Bv _ _ hi,Bv _ _ hib] at this
    have:=V.buses _ (List.getElem_mem hib)
    omega
theorem Qk {r:Af} {t:Au} (h:Gf r t) {i:Nat} (hi:i<r.buses.length+r.spares.length):∀ (k:Nat)(d d':Int),(r.legs.map Rg.lo)[k]? = some d→(t.legs[i]!)[k]? = some d'→d≤d':=fun k d d' h1 h2=>by
  rw [List.getElem?_map] at h1
  obtain⟨x,hx,rfl⟩:=Option.map_eq_some_iff.1 h1
  exact(h.leg i hi k x d' hx h2).1
theorem Ql {r:Af} {t:Au} (h:Gf r t) {i:Nat} (hi:i<r.buses.length+r.spares.length):∀ (k:Nat)(d d':Int),(t.legs[i]!)[k]? = some d→(r.legs.map Rg.hi)[k]? = some d'→d≤d':=fun k d d' h1 h2=>by
  rw [List.getElem?_map] at h2
  obtain⟨x,hx,rfl⟩:=Option.map_eq_some_iff.1 h2
  exact(h.leg i hi k x d hx h1).2
theorem Gf.small {r:Af} {t:Au} (h:Gf r t) (V:Dk r) {i:Nat} (hi:i<r.buses.length+r.spares.length):(t.legs[i]!).length≤20∧∀ d∈t.legs[i]!,0≤d∧d≤300:=by
  have hl:=h.ll i hi
  have:=V.nl
  refine⟨by omega,fun d hd=>?_⟩
  obtain⟨k,hk,rfl⟩:=List.mem_iff_getElem.1 hd
  have hkr:k<r.legs.length:=by omega
  have:=h.leg i hi k _ _ (List.getElem?_eq_getElem hkr) (List.getElem?_eq_getElem hk)
  have:=V.legs _ (List.getElem_mem hkr)
  omega
theorem Gf.busT {r:Af} {t:Au} (h:Gf r t) (V:Dk r) {a:Aw} (A:Hj r a) {i:Nat} (hi:i<r.buses.length):E3 r (BT r a t i)∧QU (Fm r a Rg.lo i) (BT r a t i)∧QU (BT r a t i) (Fm r a Rg.hi i):=by
  have o:=NP GL.low V A i hi
  have h1:=h.tms i hi
  have h2:=h.tts i hi
  have h3:=h.ll i (by omega)
  have h4:=h.small V (i:=i) (by omega)
  have hT:=V.turn
  have hb:=V.buses _ (List.getElem_mem hi)
  have hh:=A.hold i hi
  have hm:=IU hh.1 hh.2 V.unit.1 V.unit.2
  rw [Bv _ _ hi] at h1
  refine⟨⟨⟨by simp only [BT]; omega,by simp only [BT]; omega,h4.1,h4.2⟩,h3,o.t,by simp only [BT]; omega,by simp only [BT]; omega,o.s0,o.s1⟩,⟨rfl,rfl,?_,h2.1,(by rw [show(BT r a t i).2.legs=t.legs[i]! from rfl,h3]; simp [Fm]),Qk h (by omega)⟩,⟨rfl,rfl,?_,h2.2,(by rw [show(BT r a t i).2.legs=t.legs[i]! from rfl,h3]; simp [Fm]),Ql h (by omega)⟩⟩ <;>
  · simp only [Fm,BT,Bv _ _ hi]; omega
theorem Gf.spT {r:Af} {t:Au} (h:Gf r t) (V:Dk r) {j:Nat} (hj:j<r.spares.length):E3 r (⟨(r.spares[j]!).stop,(r.spares[j]!).tm,-1⟩,⟨t.legs[r.buses.length+j]!,0⟩)∧QU (KD r Rg.lo j) (⟨(r.spares[j]!).stop,(r.spares[j]!).tm,-1⟩,⟨t.legs[r.buses.length+j]!,0⟩)∧QU (⟨(r.spares[j]!).stop,(r.spares[j]!).tm,-1⟩,⟨t.legs[r.buses.length+j]!,0⟩) (KD r Rg.hi j):=by
  have o:=P8 GL.low V j hj
  have h3:=h.ll (r.buses.length+j) (by omega)
  have h4:=h.small V (i:=r.buses.length+j) (by omega)
  exact⟨⟨⟨Int.le_refl _,by simp,h4.1,h4.2⟩,h3,o.t,o.tm0,o.tm1,o.s0,o.s1⟩,⟨rfl,rfl,Int.le_refl _,Int.le_refl _,(by simp only []; rw [h3]; simp [KD]),Qk h (by omega)⟩,⟨rfl,rfl,Int.le_refl _,Int.le_refl _,(by simp only []; rw [h3]; simp [KD]),Ql h (by omega)⟩⟩
theorem KF {r:Af} {a:Aw} {t:Au} {p:Bg×A1}:p∈CV r a t↔(∃ i<r.buses.length,p=BT r a t i)∨∃ j<r.spares.length,a.spares[j]! = true∧p=(⟨(r.spares[j]!).stop,(r.spares[j]!).tm,-1⟩,⟨t.legs[r.buses.length+j]!,0⟩):=by
  unfold CV
  rw [List.mem_append,List.mem_map,List.mem_filterMap]
  constructor
  · rintro(⟨i,hi,rfl⟩ | ⟨j,hj,h⟩)
    · exact .inl ⟨i,List.mem_range.1 hi,rfl⟩
    · unfold Gd at h
      split at h
      · rename_i hs
        cases h
        exact .inr ⟨j,List.mem_range.1 hj,hs,rfl⟩
      · cases h
  · rintro(⟨i,hi,rfl⟩ | ⟨j,hj,hs,rfl⟩)
    · exact .inl ⟨i,List.mem_range.2 hi,rfl⟩
    · exact .inr ⟨j,List.mem_range.2 hj,by unfold Gd; rw [if_pos hs]⟩
theorem PD {r:Af} {a:Aw} {s:Nat} {q:Rg}:q∈EL r a s↔(∃ i<r.buses.length,G9 ((r.legs.length:Int)+1) (Fm r a Rg.lo i) s=some q.lo∧G9 ((r.legs.length:Int)+1) (Fm r a Rg.hi i) s=some q.hi) ∨
    ∃ j<r.spares.length,a.spares[j]! = true∧G9 ((r.legs.length:Int)+1) (KD r Rg.lo j) s=some q.lo∧G9 ((r.legs.length:Int)+1) (KD r Rg.hi j) s=some q.hi:=by
  unfold EL QZ
  rw [List.mem_filterMap]
  constructor
  · rintro⟨P,hP,h⟩
    rw [F5] at h
    rcases List.mem_append.1 hP with hP | hP
    · obtain⟨i,hi,rfl⟩:=List.mem_map.1 hP
      exact .inl ⟨i,List.mem_range.1 hi,h⟩
    · obtain⟨j,hj,hc⟩:=List.mem_filterMap.1 hP
      split at hc
      · rename_i hs
        cases hc
        exact .inr ⟨j,List.mem_range.1 hj,hs,h⟩
      · cases hc
  · rintro(⟨i,hi,h⟩ | ⟨j,hj,hs,h⟩)
    · exact⟨_,List.mem_append_left _ (List.mem_map_of_mem (List.mem_range.2 hi)),F5.2 h⟩
    · exact⟨_,List.mem_append_right _ (List.mem_filterMap.2 ⟨j,List.mem_range.2 hj,by rw [if_pos hs]⟩),F5.2 h⟩
theorem Gf.ok {r:Af} {t:Au} (h:Gf r t) (V:Dk r) {a:Aw} (A:Hj r a):∀ p∈CV r a t,E3 r p:=fun p hp=>by
  rcases KF.1 hp with⟨i,hi,rfl⟩ | ⟨j,hj,_,rfl⟩
  · exact(h.busT V A hi).1
  · exact(h.spT V hj).1
theorem Gf.pass {r:Af} {t:Au} (h:Gf r t) (V:Dk r) {a:Aw} (A:Hj r a) {s:Nat} {q:Rg} (hq:q∈EL r a s):∃ p∈CV r a t,∃ x,G9 ((r.legs.length:Int)+1) p s=some x∧q.lo≤x∧x≤q.hi:=by
  rcases PD.1 hq with⟨i,hi,h1,h2⟩ | ⟨j,hj,hs,h1,h2⟩
  · obtain⟨o,l1,l2⟩:=h.busT V A hi
    have o1:=(NP GL.low V A i hi).t
    rcases l1.at o1 s with⟨e,_⟩ | ⟨u,x,e1,e2,e3⟩
    · rw [e] at h1; cases h1
    · rcases l2.at o.t s with⟨e,_⟩ | ⟨x',v,f1,f2,f3⟩
      · rw [e] at e2; cases e2
      · rw [e1] at h1; cases h1
        rw [f2] at h2; cases h2
        rw [f1] at e2; cases e2
        exact⟨_,KF.2 (.inl ⟨i,hi,rfl⟩),_,f1,e3,f3⟩
  · obtain⟨o,l1,l2⟩:=h.spT V hj
    have o1:=(P8 GL.low V j hj).t
    rcases l1.at o1 s with⟨e,_⟩ | ⟨u,x,e1,e2,e3⟩
    · rw [e] at h1; cases h1
    · rcases l2.at o.t s with⟨e,_⟩ | ⟨x',v,f1,f2,f3⟩
      · rw [e] at e2; cases e2
      · rw [e1] at h1; cases h1
        rw [f2] at h2; cases h2
        rw [f1] at e2; cases e2
        exact⟨_,KF.2 (.inr ⟨j,hj,hs,rfl⟩),_,f1,e3,f3⟩
theorem Ic {r:Af} (V:Dk r) {a:Aw} {t:Au} {s:Nat} (hs:s<r.legs.length+1) {y:Int}:y∈DA r a t s↔y=r.fr∨y=r.to_∨(∃ p∈CV r a t,G9 ((r.legs.length:Int)+1) p s=some y)∧r.fr≤y∧y≤r.to_:=by
  have hl:=V.looked
  unfold DA
  rw [List.mem_cons,List.mem_cons,List.mem_filter,List.mem_map]
  refine or_congr Iff.rfl (or_congr Iff.rfl ?_)
  have key:∀ p:Bg×A1,(EM (r.legs.length+1) p)[s]! = (G9 ((r.legs.length:Int)+1) p s).getD (-1):=fun p=>by
    rw [Bv _ _ (by unfold EM; simp; omega)]
    unfold EM
    rw [List.getElem_map,List.getElem_range]
    rfl
  constructor
  · rintro⟨⟨l,hl1,rfl⟩,hin⟩
    obtain⟨p,hp,rfl⟩:=List.mem_map.1 hl1
    unfold PB at hin
    have hin:=of_decide_eq_true hin
    rw [key] at hin ⊢
    cases he:G9 ((r.legs.length:Int)+1) p s with
    | none=>rw [he] at hin; simp at hin; omega
    | some x=>rw [he] at hin; exact⟨⟨p,hp,he⟩,hin⟩
  · rintro⟨⟨p,hp,he⟩,hin⟩
    exact⟨⟨_,List.mem_map_of_mem hp,by rw [key,he]; rfl⟩,by unfold PB; exact decide_eq_true hin⟩
end Go.Proofs.YtokchpjijlebiaaGreat
namespace Go.Proofs.YtokchpjijlebiaaGreat
open Go Go.RowKit
end Go.Proofs.YtokchpjijlebiaaGreat
namespace Go.Proofs.YtokchpjijlebiaaGreat
open Go Go.RowKit
end Go.Proofs.YtokchpjijlebiaaGreat
namespace Go.Proofs.YtokchpjijlebiaaGreat
open Go Go.RowKit
theorem Nl:∀ {x y z:List Int},QT x y=true→QT y z=true→QT x z=true
  | [],y,z,h,_=>by simp [QT] at h
  | x::xs,[],z,h,_=>by simp [QT] at h
  | x::xs,y::ys,[],_,h=>by simp [QT] at h
  | x::xs,y::ys,z::zs,h1,h2=>by
    rw [QT] at h1 h2 ⊢
    by_cases e:x=y
    · subst e
      rw [if_pos rfl] at h1
      by_cases e2:x=z
      · rw [if_pos e2] at h2 ⊢
        exact Nl h1 h2
      · rw [if_neg e2] at h2 ⊢
        exact h2
    · rw [if_neg e] at h1
      have h3:=of_decide_eq_true h1
      by_cases e2:y=z
      · subst e2
        rw [if_neg e]; exact h1
      · rw [if_neg e2] at h2
        have h4:=of_decide_eq_true h2
        rw [if_neg (by omega)]
        exact decide_eq_true (by omega)
theorem Ie (a b:Aw):F2 a b=true↔MP a<MP b∨(MP a=MP b∧(MQ a<MQ b∨(MQ a=MQ b∧QT (enc a) (enc b)=true))):=by
  unfold F2
  by_cases e:MP a=MP b
  · rw [if_pos e]
    by_cases e2:MQ a=MQ b
    · rw [if_pos e2]
      constructor
      · exact fun h=>.inr ⟨e,.inr ⟨e2,h⟩⟩
      · rintro(h | ⟨_,h | ⟨_,h⟩⟩)
        · omega
        · omega
        · exact h
    · rw [if_neg e2,decide_eq_true_eq]
      constructor
      · exact fun h=>.inr ⟨e,.inl h⟩
      · rintro(h | ⟨_,h | ⟨h,_⟩⟩)
        · omega
        · exact h
        · omega
  · rw [if_neg e,decide_eq_true_eq]
    constructor
    · exact fun h=>.inl h
    · rintro(h | ⟨h,_⟩)
      · exact h
      · omega
theorem MR {a b c:Aw} (h1:F2 a b=true) (h2:F2 b c=true):F2 a c=true:=by
  rw [Ie] at h1 h2 ⊢
  rcases h1 with h1 | ⟨e1,h1 | ⟨f1,h1⟩⟩ <;> rcases h2 with h2 | ⟨e2,h2 | ⟨f2,h2⟩⟩
  · exact .inl (by omega)
  · exact .inl (by omega)
  · exact .inl (by omega)
  · exact .inl (by omega)
  · exact .inr ⟨by omega,.inl (by omega)⟩
  · exact .inr ⟨by omega,.inl (by omega)⟩
  · exact .inl (by omega)
  · exact .inr ⟨by omega,.inl (by omega)⟩
  · exact .inr ⟨by omega,.inr ⟨by omega,Nl h1 h2⟩⟩
theorem JT (x:List Int) (hx:x.length≤100):∀ (n i:Nat),x.length<n+i→i≤x.length→DK n x x (i:Int)=some (Ex.go ())
  | 0,i,h,hi=>by omega
  | n+1,i,h,hi=>by
    rw [DK,Br]
    by_cases c:i<x.length
    · simp only [c,decide_true,cond_true]
      rw [AB _ _ c]
      simp only [Option.bind_some,bne_self_eq_false,cond_false]
      rw [CY i (by omega)]
      exact JT x hx n (i+1) (by omega) (by omega)
    · simp only [c,decide_false,cond_false]
theorem QC (n:Nat) (x:List Int) (hx:x.length<n) (h:x.length≤100):F6 n x x=some true:=by
  have e:=JT x h n 0 (by omega) (by omega)
  rw [Int.natCast_zero] at e
  unfold F6
  rw [bne_self_eq_false,cond_false,e]
  rfl
def S2 (r:Af) (l:List Aw) (i:Nat) (v w:Int):Prop :=
  ((i=0∧v=-1)∨((∀ k (h:k<l.length),k<i→v≤maxW r l[k])∧∃ k,∃ h:k<l.length,k<i∧v=maxW r l[k])) ∧
  ((w=-1∧∀ k (h:k<l.length),k<i→r.gap<maxW r l[k])∨∃ b,∃ h:b<l.length,b<i∧w=(b:Int)∧maxW r l[b]≤r.gap∧∀ k (h:k<l.length),k<i→maxW r l[k]≤r.gap→F2 l[k] l[b]=false)
theorem S2.step {r:Af} {l:List Aw} {i:Nat} {v w v' w':Int} (V:Dk r) (hi:i<l.length) (h:S2 r l i v w)
    (hv:v' = if v<0∨maxW r l[i]<v then maxW r l[i] else v)
    (hw:(r.gap<maxW r l[i]∧w' = w)∨(maxW r l[i]≤r.gap∧((w<0∧w' = (i:Int))∨∃ b,∃ hb:b<l.length,w=(b:Int)∧((F2 l[i] l[b]=true∧w' = (i:Int))∨(F2 l[i] l[b]=false∧w' = w))))):S2 r l (i+1) v' w':=by
  obtain⟨h1,h2⟩:=h
  constructor
  · right
    have hm:=(LV V l[i]).1
    rcases h1 with⟨h0,h1⟩ | ⟨h1,k0,hk0,hk1,hk2⟩
    · rw [if_pos (.inl (by omega))] at hv
      refine⟨fun k hk hk'=>?_,i,hi,by omega,hv⟩
      have:k=i:=by omega
      subst this
      omega
    · have hm2:=(LV V l[k0]).1
      by_cases c:v<0∨maxW r l[i]<v
      · rw [if_pos c] at hv
        refine⟨fun k hk hk'=>?_,i,hi,by omega,hv⟩
        by_cases e:k=i
        · subst e; omega
        · have:=h1 k hk (by omega); omega
      · rw [if_neg c] at hv
        refine⟨fun k hk hk'=>?_,k0,hk0,by omega,by omega⟩
        by_cases e:k=i
        · subst e; omega
        · have:=h1 k hk (by omega); omega
  · rcases hw with⟨hg,hw⟩ | ⟨hg,hw⟩
    · rcases h2 with⟨h0,h2⟩ | ⟨b,hb,hbi,hbw,hbk,hbb⟩
      · refine .inl ⟨by omega,fun k hk hk'=>?_⟩
        by_cases e:k=i
        · subst e; exact hg
        · exact h2 k hk (by omega)
      · refine .inr ⟨b,hb,by omega,by omega,hbk,fun k hk hk' hk2=>?_⟩
        by_cases e:k=i
        · subst e; omega
        · exact hbb k hk (by omega) hk2
    · rcases hw with⟨hw0,hw⟩ | ⟨b',hb',hbw',hw⟩
      · refine .inr ⟨i,hi,by omega,hw,hg,fun k hk hk' hk2=>?_⟩
        by_cases e:k=i
        · subst e
          cases hc:F2 l[k] l[k] with
          | false=>rfl
          | true =>
            rw [Ie,JA] at hc
            rcases hc with hc | ⟨_,hc | ⟨_,hc⟩⟩
            · omega
            · omega
            · cases hc
        · rcases h2 with⟨h0,h2⟩ | ⟨b,hb,hbi,hbw,_⟩
          · have:=h2 k hk (by omega); omega
          · omega
      · rcases h2 with⟨h0,h2⟩ | ⟨b,hb,hbi,hbw,hbk,hbb⟩
        · omega
        · have:b=b':=by omega
          subst this
          rcases hw with⟨hc,hw⟩ | ⟨hc,hw⟩
          · refine .inr ⟨i,hi,by omega,hw,hg,fun k hk hk' hk2=>?_⟩
            cases hk3:F2 l[k] l[i] with
            | false=>rfl
            | true =>
              by_cases e:k=i
              · subst e
                rw [Ie,JA] at hk3
                rcases hk3 with hk3 | ⟨_,hk3 | ⟨_,hk3⟩⟩
                · omega
                · omega
                · cases hk3
              · have:=hbb k hk (by omega) hk2
                rw [MR hk3 hc] at this
                exact this
          · refine .inr ⟨b,hb,by omega,by omega,hbk,fun k hk hk' hk2=>?_⟩
            by_cases e:k=i
            · subst e; exact hc
            · exact hbb k hk (by omega) hk2
end Go.Proofs.YtokchpjijlebiaaGreat
namespace Go.Proofs.YtokchpjijlebiaaGreat
open Go Go.RowKit
end Go.Proofs.YtokchpjijlebiaaGreat
namespace Go.Proofs.YtokchpjijlebiaaGreat
open Go Go.RowKit
end Go.Proofs.YtokchpjijlebiaaGreat
namespace Go.Proofs.YtokchpjijlebiaaGreat
open Go Go.RowKit
end Go.Proofs.YtokchpjijlebiaaGreat
namespace Go.Proofs.YtokchpjijlebiaaGreat
open Go Go.RowKit
theorem Hn:∀ {x y:List Int},x.Pairwise (· < ·)→y.Pairwise (· < ·)→(∀ v,v∈x↔v∈y)→x=y
  | [],[],_,_,_=>rfl
  | [],b::y,_,_,h=>by have:=(h b).2 (by simp); simp at this
  | a::x,[],_,_,h=>by have:=(h a).1 (by simp); simp at this
  | a::x,b::y,hx,hy,h=>by
    rw [List.pairwise_cons] at hx hy
    have hab:a=b:=by
      have h1:=(h a).1 (by simp)
      have h2:=(h b).2 (by simp)
      rcases List.mem_cons.1 h1 with h1 | h1
      · exact h1
      · rcases List.mem_cons.1 h2 with h2 | h2
        · exact h2.symm
        · have:=hx.1 b h2
          have:=hy.1 a h1
          omega
    subst hab
    rw [Hn hx.2 hy.2 fun v=>?_]
    constructor
    · intro hv
      rcases List.mem_cons.1 ((h v).1 (List.mem_cons_of_mem _ hv)) with rfl | h1
      · have:=hx.1 _ hv; omega
      · exact h1
    · intro hv
      rcases List.mem_cons.1 ((h v).2 (List.mem_cons_of_mem _ hv)) with rfl | h1
      · have:=hy.1 _ hv; omega
      · exact h1
theorem OA {zs:List Int} {y:Int}:y∈Lib.compact zs↔y∈zs:=by
  unfold Lib.compact Lib.compactUpTo
  rw [List.mem_map]
  constructor
  · rintro⟨j,hj,rfl⟩
    rw [List.mem_filter,List.mem_range] at hj
    have:zs.toArray[j]! = zs[j]:=getElem!_pos zs.toArray j (by simpa using hj.1)
    rw [this]
    exact List.getElem_mem _
  · intro hy
    obtain⟨j,hj,he⟩:=List.mem_iff_getElem.1 hy
    -- the first place
    have key:∀ k,(∃ j,∃ h:j<zs.length,zs[j]=y∧j<k)→∃ j,∃ h:j<zs.length,zs[j]=y∧Lib.keeps zs.toArray j=true:=by
      intro k
      induction k with
      | zero=>rintro⟨_,_,_,h⟩; omega
      | succ k ih =>
        rintro⟨j,hj,he,hjk⟩
        by_cases h0:Lib.keeps zs.toArray j=true
        · exact⟨j,hj,he,h0⟩
        · unfold Lib.keeps at h0
          simp only [decide_eq_true_eq,not_or,ne_eq,Decidable.not_not] at h0
          obtain⟨h1,h2⟩:=h0
          have e1:zs.toArray[j]! = zs[j]:=getElem!_pos zs.toArray j (by simpa using hj)
          have e2:zs.toArray[j-1]! = zs[j-1]:=getElem!_pos zs.toArray (j-1) (by simp; omega)
          rw [e1,e2] at h2
          exact ih ⟨j-1,by omega,by rw [← h2]; exact he,by omega⟩
    obtain⟨j,hj,he,hk⟩:=key (j+1) ⟨j,hj,he,by omega⟩
    exact⟨j,List.mem_filter.2 ⟨List.mem_range.2 hj,hk⟩,by rw [← he]; exact getElem!_pos zs.toArray j (by simpa using hj)⟩
theorem LX {zs:List Int} (hs:zs.Pairwise (·≤·)):(Lib.compact zs).Pairwise (· < ·):=by
  unfold Lib.compact Lib.compactUpTo
  rw [List.pairwise_map]
  have h1:((List.range zs.length).filter (Lib.keeps zs.toArray)).Pairwise (· < ·):=List.Pairwise.sublist List.filter_sublist List.pairwise_lt_range
  refine h1.imp_of_mem fun {i j} hi hj hij=>?_
  rw [List.mem_filter,List.mem_range] at hi hj
  have e1:zs.toArray[i]! = zs[i]:=getElem!_pos zs.toArray i (by simpa using hi.1)
  have e2:zs.toArray[j]! = zs[j]:=getElem!_pos zs.toArray j (by simpa using hj.1)
  have e3:zs.toArray[j-1]! = zs[j-1]:=getElem!_pos zs.toArray (j-1) (by simp; omega)
  have hk:=hj.2
  unfold Lib.keeps at hk
  simp only [decide_eq_true_eq] at hk
  rcases hk with hk | hk
  · omega
  rw [e2,e3] at hk
  rw [e1,e2]
  have a1:zs[i]≤zs[j-1]:=by
    rcases Nat.lt_or_ge i (j-1) with h | h
    · exact List.pairwise_iff_getElem.1 hs i (j-1) hi.1 (by omega) h
    · have:i=j-1:=by omega
      subst this; exact Int.le_refl _
  have a2:zs[j-1]≤zs[j]:=List.pairwise_iff_getElem.1 hs (j-1) j (by omega) hj.1 (by omega)
  omega
theorem NR (l:List Int):(D8 l).Pairwise (·≤·):=by
  have:=List.pairwise_mergeSort (le:=fun x y:Int=>decide (x≤y)) (fun a b c h1 h2=>by simp at *; omega) (fun a b=>by simp; omega) l
  unfold D8
  exact this.imp fun h=>by simpa using h
theorem QD {l:List Int} {y:Int}:y∈D8 l↔y∈l:=List.mem_mergeSort
def NS (ms:List (List Int)) (P:Nat→Int→Prop) (B:Nat):Prop:=∀ k l,ms[k]? = some l→l.length≤B∧∀ y,y∈l↔P k y
def gM (n:Nat) (r:Af) (s:List (List Int)) (a b:Int):Option (List (List Int)):=((A2 n r b).bind fun x63 =>
    (bif x63 then
    ((B8 s a).bind fun x68 =>
    ((Jb x68 ([b]:List Int)).bind fun x72 =>
    ((B8 s a).bind fun x73 =>
    ((upd s a x72).bind fun u_376 =>
    some u_376))))
    else
    some s))
theorem QE (n:Nat) (r:Af) (x:Int):A2 n r x=some (PB r x):=by
  unfold A2
  rw [FY]; rfl
theorem SN (n:Nat) (r:Af) (ms:List (List Int)) (s:Nat) (t:Int) (P:Nat→Int→Prop) (B:Nat) (hs:s<ms.length) (hI:NS ms P B) (hB:B<1000000):∃ ms',gM n r ms (s:Int) t=some ms'∧ms'.length=ms.length∧NS ms' (fun k y=>P k y∨(k=s∧y=t∧PB r y=true)) (B+1):=by
  unfold gM
  rw [QE,Option.bind_some]
  cases hin:PB r t with
  | false =>
    refine⟨ms,rfl,rfl,fun k l hk=>?_⟩
    obtain⟨h1,h2⟩:=hI k l hk
    refine⟨by omega,fun y=>?_⟩
    rw [h2]
    constructor
    · exact .inl
    · rintro(h | ⟨_,rfl,h⟩)
      · exact h
      · rw [hin] at h; cases h
  | true =>
    have h0:=hI s _ (List.getElem?_eq_getElem hs)
    rw [cond_true,AB _ _ hs,Option.bind_some,FO _ _ (by simp; omega),Option.bind_some,Option.bind_some,O4 _ _ _ hs,Option.bind_some]
    refine⟨_,rfl,by simp,fun k l hk=>?_⟩
    by_cases hks:s=k
    · subst hks
      rw [List.getElem?_set_self hs] at hk
      cases hk
      refine⟨by simp; omega,fun y=>?_⟩
      rw [List.mem_append,h0.2,List.mem_singleton]
      constructor
      · rintro(h | rfl)
        · exact .inl h
        · exact .inr ⟨rfl,rfl,hin⟩
      · rintro(h | ⟨_,h,_⟩)
        · exact .inl h
        · exact .inr h
    · rw [List.getElem?_set_ne hks] at hk
      obtain⟨h1,h2⟩:=hI k l hk
      refine⟨by omega,fun y=>?_⟩
      rw [h2]
      constructor
      · exact .inl
      · rintro(h | ⟨h,_⟩)
        · exact h
        · exact absurd h.symm hks
theorem NS.imp {ms:List (List Int)} {P Q:Nat→Int→Prop} {B C:Nat} (h:NS ms P B) (hPQ:∀ k y,P k y↔Q k y) (hB:B≤C):NS ms Q C:=fun k l hk=>⟨Nat.le_trans (h k l hk).1 hB,fun y=>((h k l hk).2 y).trans (hPQ k y)⟩
theorem LY (n:Nat) (r:Af):∀ (pl:List (Int×Int))(ms:List (List Int))(P:Nat→Int→Prop)(B:Nat),(∀ p∈pl,0≤p.1∧p.1<(ms.length:Int))→NS ms P B→B+pl.length<1000000 →
    ∃ ms',pl.foldlM (fun x p=>gM n r x p.1 p.2) ms=some ms'∧ms'.length=ms.length∧NS ms' (fun k y=>P k y∨(((k:Int),y)∈pl∧PB r y=true)) (B+pl.length)
  | [],ms,P,B,_,hI,_=>⟨ms,rfl,rfl,hI.imp (fun k y=>by simp) (by simp)⟩
  | p::pl,ms,P,B,hp,hI,hB=>by
    have h1:=hp p (by simp)
    simp only [List.length_cons] at hB
    obtain⟨m1,e1,l1,I1⟩:=SN n r ms p.1.toNat p.2 P B (by omega) hI (by omega)
    rw [show((p.1.toNat:Nat):Int)=p.1 by omega] at e1
    obtain⟨m2,e2,l2,I2⟩:=LY n r pl m1 _ _ (fun q hq=>by rw [l1]; exact hp q (List.mem_cons_of_mem _ hq)) I1 (by omega)
    refine⟨m2,?_,by omega,I2.imp (fun k y=>?_) (by simp; omega)⟩
    · rw [List.foldlM_cons,e1]; exact e2
    · rw [List.mem_cons]
      constructor
      · rintro((h | ⟨h,h2,h3⟩) | ⟨h,h2⟩)
        · exact .inl h
        · refine .inr ⟨.inl ?_,h3⟩
          rw [h2,h]
          exact Prod.ext (by simp only []; omega) rfl
        · exact .inr ⟨.inr h,h2⟩
      · rintro(h | ⟨h | h,h2⟩)
        · exact .inl (.inl h)
        · refine .inl (.inr ⟨?_,?_,h2⟩)
          · have:=congrArg Prod.fst h; simp only [] at this; omega
          · exact congrArg Prod.snd h
        · exact .inr ⟨h,h2⟩
theorem Nm (w:AO) (x18:List (List Int)) (hb:x18.length≤50):∀ (n i:Nat)(x:List (List Int)),x18.length<n+i→i≤x18.length→x.length=x18.length→(∀ k,k<i→x[k]? = some [w.route.fr,w.route.to_])→AY n w x18 x (i:Int)=some (List.replicate x18.length [w.route.fr,w.route.to_])
  | 0,i,x,h,hi,_,_=>by omega
  | n+1,i,x,h,hi,hl,hk=>by
    rw [AY,Br]
    by_cases hx:i<x18.length
    · simp only [hx,decide_true,cond_true]
      rw [AB _ _ (by omega),Option.bind_some,O4 _ _ _ (by omega),Option.bind_some,CY i (by omega)]
      refine Nm w x18 hb n (i+1) _ (by omega) (by omega) (by simp [hl]) fun k hk'=>?_
      rw [List.getElem?_set]
      by_cases hki:i=k
      · subst hki; simp; omega
      · rw [if_neg hki]; exact hk k (by omega)
    · simp only [hx,decide_false,cond_false,Option.some.injEq]
      apply List.ext_getElem?
      intro k
      rw [List.getElem?_replicate]
      split
      · exact hk k (by omega)
      · exact List.getElem?_eq_none (by omega)
theorem IV {st turned turn:Int} {legs:List Int}:∀ (n:Nat)(tm s:Int),(Cm st turned turn legs n tm s).length≤n
  | 0,_,_=>by simp [Cm]
  | n+1,tm,s=>by
    rw [Cm]
    split
    · rw [List.length_cons]
      split
      · have:=IV (st:=st) (turned:=turned) (turn:=turn) (legs:=legs) n (tm+turn) (st-1-s); omega
      · split
        · rename_i d _
          have:=IV (st:=st) (turned:=turned) (turn:=turn) (legs:=legs) n (tm+d) (s+1); omega
        · simp
    · simp
theorem QF {r:Af} {p:Bg×A1} (o:E3 r p) {n:Nat} (hn:30≤n) (hl:r.legs.length≤20) (k:Nat) (y:Int):((k:Int),y)∈Cm ((r.legs.length:Int)+1) p.1.turned p.2.turn p.2.legs n p.1.tm p.1.stop↔G9 ((r.legs.length:Int)+1) p k=some y:=by
  have h0:=o.s0
  rw [Hk o.t n 40 _ _ (by omega) (by omega)]
  unfold G9
  constructor
  · intro h
    obtain⟨j,hj⟩:=List.mem_iff_getElem?.1 h
    exact Mr (Gs o.t 40 _ _) hj
  · exact Na
theorem Nn (w:AO) (l:List (Bg×A1)) (hl:w.route.legs.length≤20) (hok:∀ p∈l,E3 w.route p) (h20:l.length≤20):∀ (n i:Nat)(ms:List (List Int))(P:Nat→Int→Prop)(B:Nat),l.length+30<n+i→n≤1000→i≤l.length→ms.length=w.route.legs.length+1→NS ms P B→B≤1000*i+10 →
    ∃ ms',AZ n w (l.map Prod.fst,l.map Prod.snd) ms (i:Int)=some ms'∧ms'.length=w.route.legs.length+1∧NS ms' (fun k y=>P k y∨((∃ p∈l.drop i,G9 ((w.route.legs.length:Int)+1) p k=some y)∧PB w.route y=true)) 30000
  | 0,i,ms,P,B,h,_,hi,_,_,_=>by omega
  | n+1,i,ms,P,B,h,hn,hi,hm,hI,hB=>by
    rw [AZ]
    simp only []
    rw [Br,List.length_map]
    by_cases hx:i<l.length
    · have o:=hok _ (List.getElem_mem hx)
      simp only [hx,decide_true,cond_true]
      rw [AB _ i (by simpa using hx),AB _ i (by simpa using hx)]
      simp only [Option.bind_some,List.getElem_map,BC]
      obtain⟨m1,e1,l1,I1⟩:=LY n w.route (Cm ((w.route.legs.length:Int)+1) l[i].1.turned l[i].2.turn l[i].2.legs n l[i].1.tm l[i].1.stop) ms P B (fun p hp=>by
        have:=GJ o.t n _ _ p hp
        rw [hm]; constructor <;> omega) hI (by have:=IV (st:=(w.route.legs.length:Int)+1) (turned:=l[i].1.turned) (turn:=l[i].2.turn) (legs:=l[i].2.legs) n l[i].1.tm l[i].1.stop; omega)
      have e2:=Q9 n (fun s a b=>(gM n w.route s a b).bind fun s1=>some (s1,true)) (gM n w.route) (fun s a b=>MO (gM n w.route s a b)) l[i].1 w.route l[i].2 ms hl o.q o.len o.t o.tm0 o.tm1 (by omega) (by omega) o.s0 o.s1
      rw [e1] at e2
      have hpl:=IV (st:=(w.route.legs.length:Int)+1) (turned:=l[i].1.turned) (turn:=l[i].2.turn) (legs:=l[i].2.legs) n l[i].1.tm l[i].1.stop
      obtain⟨m2,f1,f2,f3⟩:=Nn w l hl hok h20 n (i+1) m1 _ _ (by omega) (by omega) (by omega) (by rw [l1,hm]) I1 (by omega)
      refine⟨m2,?_,f2,f3.imp (fun k y=>?_) (Nat.le_refl _)⟩
      · show((Bf n (fun s a b=>(gM n w.route s a b).bind fun s1=>some (s1,true)) ms l[i].1 w.route l[i].2).bind _)=_
        rw [e2,Option.bind_some,CY i (by omega)]
        exact f1
      · rw [A8 hx,QF o (by omega) hl]
        constructor
        · rintro((h | ⟨h,h2⟩) | ⟨⟨p,hp,h⟩,h2⟩)
          · exact .inl h
          · exact .inr ⟨⟨_,List.mem_cons_self,h⟩,h2⟩
          · exact .inr ⟨⟨p,List.mem_cons_of_mem _ hp,h⟩,h2⟩
        · rintro(h | ⟨⟨p,hp,h⟩,h2⟩)
          · exact .inl (.inl h)
          · rcases List.mem_cons.1 hp with rfl | hp
            · exact .inl (.inr ⟨h,h2⟩)
            · exact .inr ⟨⟨p,hp,h⟩,h2⟩
    · have hi':i=l.length:=by omega
      have hd:l.drop i=[]:=List.drop_eq_nil_of_le (by omega)
      simp only [hx,decide_false,cond_false]
      exact⟨ms,rfl,hm,hI.imp (fun k y=>by rw [hd]; simp) (by omega)⟩
theorem No (o:List (List Int)) (hb:o.length≤50):∀ (n i:Nat)(x:List (List Int)),o.length<n+i→i≤o.length→x.length=o.length→(∀ (k:Nat) l,o[k]? = some l→l.length≤1000000∧x[k]? = some (if k<i then Lib.compact (D8 l) else l)) →
    Ba n o x (i:Int)=some (o.map fun l=>Lib.compact (D8 l))
  | 0,i,x,h,hi,_,_=>by omega
  | n+1,i,x,h,hi,hl,hk=>by
    rw [Ba,Br]
    by_cases hx:i<o.length
    · simp only [hx,decide_true,cond_true]
      obtain⟨h1,h2⟩:=hk i _ (List.getElem?_eq_getElem hx)
      rw [if_neg (by omega)] at h2
      have hix:i<x.length:=by omega
      have e0:B8 x (i:Int)=some o[i]:=by rw [RR,h2]
      have e1:Pg o[i]=some (D8 o[i]):=by unfold Pg; rw [if_pos (by omega)]
      have e2:Pi (D8 o[i])=some (Lib.compact (D8 o[i])):=by unfold Pi; rw [if_pos (by rw [Je]; omega)]
      have e3:B8 (x.set i (D8 o[i])) (i:Int)=some (D8 o[i]):=by rw [RR,List.getElem?_set_self hix]
      rw [e0,Option.bind_some,e1,Option.bind_some,O4 _ _ _ hix,Option.bind_some,e3,Option.bind_some,e2,Option.bind_some,Option.bind_some,O4 _ _ _ (by simpa using hix),Option.bind_some,List.set_set,CY i (by omega)]
      refine No o hb n (i+1) _ (by omega) (by omega) (by simp [hl]) fun k l hkl=>?_
      obtain⟨g1,g2⟩:=hk k l hkl
      refine⟨g1,?_⟩
      rw [List.getElem?_set]
      by_cases hki:i=k
      · subst hki
        have:o[i]=l:=by rw [List.getElem?_eq_getElem hx] at hkl; exact Option.some.inj hkl
        rw [if_pos rfl,if_pos hix,if_pos (by omega),this]
      · rw [if_neg hki,g2]
        by_cases hlt:k<i
        · rw [if_pos hlt,if_pos (by omega)]
        · rw [if_neg hlt,if_neg (by omega)]
    · simp only [hx,decide_false,cond_false,Option.some.injEq]
      apply List.ext_getElem?
      intro k
      rw [List.getElem?_map]
      cases hok:o[k]? with
      | none=>rw [List.getElem?_eq_none (by have:=List.getElem?_eq_none_iff.1 hok; omega)]; rfl
      | some l =>
        rw [(hk k l hok).2,if_pos (by have:=(List.getElem?_eq_some_iff.1 hok).1; omega)]; rfl
theorem Rb (n:Nat) (r:Af) (a:Aw) (t:Au) (V:Dk r) (S:HV r a t) (hok:∀ p∈CV r a t,E3 r p) (hn:90≤n) (hn2:n≤900) :
    ∃ ml,Ci n ⟨r,a⟩ t=some ml∧ml.length=r.legs.length+1∧∀ (s:Nat) l,ml[s]? = some l→l.Pairwise (· < ·)∧(∀ y,y∈l↔y∈DA r a t s)∧l.length≤30000:=by
  have:=V.nl
  have:=S.nb
  have:=S.ns
  have hlt:(CV r a t).length≤r.buses.length+r.spares.length:=by
    unfold CV
    rw [List.length_append,List.length_map,List.length_range]
    have:=List.length_filterMap_le (Gd r a t) (List.range r.spares.length)
    rw [List.length_range] at this
    omega
  unfold Ci
  simp only []
  rw [Ee n r (by omega),Option.bind_some]
  have eM:mk ((r.legs.length:Int)+1) ([]:List Int)=some (List.replicate (r.legs.length+1) []):=by
    rw [show((r.legs.length:Int)+1)=((r.legs.length+1:Nat):Int) by omega]; exact SU _ _ (by omega)
  rw [eM,Option.bind_some]
  have e1:=Nm ⟨r,a⟩ (List.replicate (r.legs.length+1) []) (by simp; omega) n 0 (List.replicate (r.legs.length+1) []) (by simp; omega) (by omega) rfl (fun k hk=>by omega)
  rw [Int.natCast_zero,List.length_replicate] at e1
  rw [e1,Option.bind_some,QW n r a t S (by omega),Option.bind_some]
  obtain⟨m2,f1,f2,f3⟩:=Nn ⟨r,a⟩ (CV r a t) (by simp only; omega) hok (by omega) n 0 (List.replicate (r.legs.length+1) [r.fr,r.to_]) (fun _ y=>y=r.fr∨y=r.to_) 2 (by omega) (by omega) (by omega) (by simp) (fun k l hk=>by
    rw [List.getElem?_replicate] at hk
    split at hk
    · cases hk; exact⟨Nat.le_refl _,fun y=>by simp⟩
    · cases hk) (by omega)
  rw [Int.natCast_zero] at f1
  rw [f1,Option.bind_some]
  have e3:=No m2 (by rw [f2]; simp only; omega) n 0 m2 (by rw [f2]; simp only; omega) (by omega) rfl (fun k l hk=>⟨by have:=(f3 k l hk).1; omega,by rw [if_neg (by omega)]; exact hk⟩)
  rw [Int.natCast_zero] at e3
  rw [e3,Option.bind_some]
  refine⟨_,rfl,by rw [List.length_map,f2],fun s l hl=>?_⟩
  rw [List.getElem?_map] at hl
  obtain⟨l0,h0,rfl⟩:=Option.map_eq_some_iff.1 hl
  obtain⟨g1,g2⟩:=f3 s l0 h0
  have hs:s<r.legs.length+1:=by have:=(List.getElem?_eq_some_iff.1 h0).1; rw [f2] at this; exact this
  refine⟨LX (NR l0),fun y=>?_,Nat.le_trans (Lo _) (by rw [Je]; exact g1)⟩
  rw [OA,QD,g2,Ic V hs,List.drop_zero]
  unfold PB
  constructor
  · rintro((h | h) | ⟨h,h2⟩)
    · exact .inl h
    · exact .inr (.inl h)
    · exact .inr (.inr ⟨h,of_decide_eq_true h2⟩)
  · rintro(h | h | ⟨h,h2⟩)
    · exact .inl (.inl h)
    · exact .inl (.inr h)
    · exact .inr ⟨h,decide_eq_true h2⟩
end Go.Proofs.YtokchpjijlebiaaGreat
namespace Go.Proofs.YtokchpjijlebiaaGreat
open Go Go.RowKit
theorem Qm (l:List Int) (hb:l.length≤90) (hr:∀ x∈l,0≤x∧x≤10000):∀ (n i:Nat)(acc:Int),l.length+102<n+i→i+1≤l.length→0≤acc→C1 n l (l.drop 1) (i:Int) acc=some (max acc (HO (l.drop i)))
  | 0,i,acc,h,hi,_=>by omega
  | n+1,i,acc,h,hi,h0=>by
    have hl1:(l.drop 1).length=l.length-1:=by simp
    rw [C1,Br]
    by_cases hx:i<(l.drop 1).length
    · have hj:i+1<l.length:=by omega
      have hi0:i<l.length:=by omega
      have b1:=hr _ (List.getElem_mem hj)
      have b2:=hr _ (List.getElem_mem hi0)
      have e0:(l.drop 1)[i]=l[i+1]:=by rw [List.getElem_drop]; congr 1; omega
      simp only [hx,decide_true,cond_true]
      rw [AB _ _ hx,Option.bind_some,AB _ _ hi0,Option.bind_some,e0,HU (x:=l[i+1]-l[i]) (by omega) (by omega),QB n _ (by omega) (by simp) (by simp),Option.bind_some,CY i (by omega)]
      have em:maxL [acc,l[i+1]-l[i]]=max acc (l[i+1]-l[i]):=rfl
      rw [em,Qm l hb hr n (i+1) _ (by omega) (by omega) (by omega),A8 hi0,A8 hj]
      show some (max (max acc (l[i+1]-l[i])) (HO (l[i+1]::l.drop (i+1+1))))=some (max acc (max (l[i+1]-l[i]) (HO (l[i+1]::l.drop (i+1+1)))))
      congr 1
      omega
    · simp only [hx,decide_false,cond_false,Option.some.injEq]
      have hi':i+1=l.length:=by omega
      have:HO (l.drop i)=0:=by
        rw [A8 (show i<l.length by omega),List.drop_eq_nil_of_le (by omega)]; rfl
      rw [this]; omega
theorem S3 (n:Nat) (l:List Int) (hn:200≤n) (h1:1≤l.length) (hb:l.length≤90) (hr:∀ x∈l,0≤x∧x≤10000):F9 n l=some (HO l):=by
  unfold F9
  have es:sub l 1=some (l.drop 1):=by unfold sub; rw [if_pos (by omega)]; rfl
  have e:=Qm l hb hr n 0 0 (by omega) (by omega) (Int.le_refl _)
  rw [Int.natCast_zero,List.drop_zero] at e
  rw [es,Option.bind_some,e,Option.bind_some]
  have:=Ib l
  congr 1; omega
theorem OB (ml:List (List Int)) (e:Int) (hb:ml.length≤50) (hm:∀ l∈ml,1≤l.length∧l.length≤90∧∀ x∈l,0≤x∧x≤10000):∀ (n i:Nat)(acc:List Int),ml.length+210<n+i→i≤ml.length→acc.length≤i→Cq n (ml,e) acc (i:Int)=some (acc++(ml.drop i).map HO)
  | 0,i,acc,h,hi,_=>by omega
  | n+1,i,acc,h,hi,ha=>by
    rw [Cq]
    simp only []
    rw [Br]
    by_cases hx:i<ml.length
    · obtain⟨h1,h2,h3⟩:=hm _ (List.getElem_mem hx)
      simp only [hx,decide_true,cond_true]
      rw [AB _ _ hx,Option.bind_some,S3 n _ (by omega) h1 h2 h3,Option.bind_some,FO _ _ (by simp; omega),Option.bind_some,CY i (by omega),OB ml e hb hm n (i+1) _ (by omega) (by omega) (by simp; omega),A8 hx,List.map_cons]
      simp only [List.append_assoc,List.singleton_append]
    · have:i=ml.length:=by omega
      simp [this]
def MS (r:Af) (t:Au) (i:Nat):Bool:=decide ((r.buses[i]!).tm.lo≤t.tm[i]!∧t.tm[i]!≤(r.buses[i]!).tm.hi) && decide (r.turn.lo≤t.turns[i]!∧t.turns[i]!≤r.turn.hi)
def MT (r:Af) (x:List Int):Bool:=decide (x.length=r.legs.length) && (List.range r.legs.length).all fun k=>decide ((r.legs[k]!).lo≤x[k]!∧x[k]!≤(r.legs[k]!).hi)
def HC (r:Af) (t:Au):Bool:=decide (t.tm.length=r.buses.length∧t.turns.length=r.buses.length∧t.legs.length=r.buses.length+r.spares.length) && ((List.range r.buses.length).all (MS r t) && t.legs.all (MT r))
theorem Rc (n:Nat) (x:Rg) (y:Int):BK n x y=some (decide (x.lo≤y∧y≤x.hi)):=by
  unfold BK
  rw [FY]; rfl
theorem Np (r:Af) (t:Au) (hb:r.buses.length≤20) (h1:t.tm.length=r.buses.length) (h2:t.turns.length=r.buses.length):∀ (n i:Nat),r.buses.length<n+i→i≤r.buses.length→Bc n r t (i:Int)=some (if ((List.range r.buses.length).drop i).all (MS r t) then Ex.go () else Ex.ret false)
  | 0,i,h,hi=>by omega
  | n+1,i,h,hi=>by
    rw [Bc,Br]
    by_cases hx:i<r.buses.length
    · have q1:i<t.tm.length:=by omega
      have q2:i<t.turns.length:=by omega
      have q6:i<(List.range r.buses.length).length:=by simpa using hx
      simp only [hx,decide_true,cond_true,AB _ _ hx,AB _ _ q1,AB _ _ q2,Option.bind_some,Rc]
      rw [A8 q6,List.all_cons,List.getElem_range,CY i (by omega),Np r t hb h1 h2 n (i+1) (by omega) (by omega)]
      unfold MS
      rw [Bv _ _ hx,Bv _ _ q1,Bv _ _ q2]
      cases decide ((r.buses[i]).tm.lo≤t.tm[i]∧t.tm[i]≤(r.buses[i]).tm.hi) with
      | false=>rfl
      | true =>
        simp only [Bool.not_true,cond_false,Bool.true_and]
        cases decide (r.turn.lo≤t.turns[i]∧t.turns[i]≤r.turn.hi) with
        | false=>rfl
        | true=>rfl
    · have:i=r.buses.length:=by omega
      have hd:(List.range r.buses.length).drop r.buses.length=[]:=List.drop_eq_nil_of_le (by simp)
      simp [this,hd]
theorem OC (r:Af) (t:Au) (hb:r.buses.length≤20) (h1:t.tm.length=r.buses.length) (h2:t.turns.length=r.buses.length):∀ (n i:Nat),r.buses.length<n+i→i≤r.buses.length→DN n r t (i:Int)=some (if ((List.range r.buses.length).drop i).all (MS r t) then Ex.go () else Ex.ret false)
  | 0,i,h,hi=>by omega
  | n+1,i,h,hi=>by
    rw [DN,Br]
    by_cases hx:i<r.buses.length
    · have q1:i<t.tm.length:=by omega
      have q2:i<t.turns.length:=by omega
      have q6:i<(List.range r.buses.length).length:=by simpa using hx
      simp only [hx,decide_true,cond_true,AB _ _ hx,AB _ _ q1,AB _ _ q2,Option.bind_some,ED]
      rw [A8 q6,List.all_cons,List.getElem_range,CY i (by omega),OC r t hb h1 h2 n (i+1) (by omega) (by omega)]
      unfold MS
      rw [Bv _ _ hx,Bv _ _ q1,Bv _ _ q2]
      cases decide ((r.buses[i]).tm.lo≤t.tm[i]∧t.tm[i]≤(r.buses[i]).tm.hi) with
      | false=>rfl
      | true =>
        simp only [Bool.not_true,cond_false,Bool.true_and]
        cases decide (r.turn.lo≤t.turns[i]∧t.turns[i]≤r.turn.hi) with
        | false=>rfl
        | true=>rfl
    · have:i=r.buses.length:=by omega
      have hd:(List.range r.buses.length).drop r.buses.length=[]:=List.drop_eq_nil_of_le (by simp)
      simp [this,hd]
theorem Nq (r:Af) (x:List Int) (hl:r.legs.length≤20) (hx0:x.length=r.legs.length):∀ (n i:Nat),r.legs.length<n+i→i≤r.legs.length→Bd n r x (i:Int)=some (if ((List.range r.legs.length).drop i).all (fun k=>decide ((r.legs[k]!).lo≤x[k]!∧x[k]!≤(r.legs[k]!).hi)) then Ex.go () else Ex.ret false)
  | 0,i,h,hi=>by omega
  | n+1,i,h,hi=>by
    rw [Bd,Br]
    by_cases hx:i<x.length
    · have q1:i<r.legs.length:=by omega
      have q6:i<(List.range r.legs.length).length:=by simpa using q1
      simp only [hx,decide_true,cond_true,AB _ _ hx,AB _ _ q1,Option.bind_some,Rc]
      rw [A8 q6,List.all_cons,List.getElem_range,CY i (by omega),Nq r x hl hx0 n (i+1) (by omega) (by omega),Bv _ _ hx,Bv _ _ q1]
      cases decide ((r.legs[i]).lo≤x[i]∧x[i]≤(r.legs[i]).hi) <;> rfl
    · have:i=r.legs.length:=by omega
      have hd:(List.range r.legs.length).drop r.legs.length=[]:=List.drop_eq_nil_of_le (by simp)
      have hx' : ¬ r.legs.length<x.length:=by omega
      simp [this,hd,hx']
theorem OD (r:Af) (t:Au) (j:Nat) (hj:j<t.legs.length) (hl:r.legs.length≤20) (hx0:(t.legs[j]).length=r.legs.length):∀ (n i:Nat),r.legs.length<n+i→i≤r.legs.length→DO n r t (j:Int) (i:Int)=some (if ((List.range r.legs.length).drop i).all (fun k=>decide ((r.legs[k]!).lo≤(t.legs[j])[k]!∧(t.legs[j])[k]!≤(r.legs[k]!).hi)) then Ex.go () else Ex.ret false)
  | 0,i,h,hi=>by omega
  | n+1,i,h,hi=>by
    rw [DO,Br]
    by_cases hx:i<r.legs.length
    · have q1:i<(t.legs[j]).length:=by omega
      have q6:i<(List.range r.legs.length).length:=by simpa using hx
      simp only [hx,decide_true,cond_true,AB _ _ hx,AB _ _ hj,AB _ _ q1,Option.bind_some,ED]
      rw [A8 q6,List.all_cons,List.getElem_range,CY i (by omega),OD r t j hj hl hx0 n (i+1) (by omega) (by omega),Bv _ _ hx,Bv _ _ q1]
      cases decide ((r.legs[i]).lo≤(t.legs[j])[i]∧(t.legs[j])[i]≤(r.legs[i]).hi) <;> rfl
    · have:i=r.legs.length:=by omega
      have hd:(List.range r.legs.length).drop r.legs.length=[]:=List.drop_eq_nil_of_le (by simp)
      simp [this,hd]
theorem Nr (r:Af) (t:Au) (hl:r.legs.length≤20) (hb:t.legs.length≤20):∀ (n i:Nat),t.legs.length+30<n+i→i≤t.legs.length→Be n r t (i:Int)=some (if (t.legs.drop i).all (MT r) then Ex.go () else Ex.ret false)
  | 0,i,h,hi=>by omega
  | n+1,i,h,hi=>by
    rw [Be,Br]
    by_cases hx:i<t.legs.length
    · simp only [hx,decide_true,cond_true,AB _ _ hx,Option.bind_some]
      rw [A8 hx,List.all_cons,CY i (by omega),Nr r t hl hb n (i+1) (by omega) (by omega)]
      unfold MT
      by_cases hq:(t.legs[i]).length=r.legs.length
      · have e:=Nq r (t.legs[i]) hl hq n 0 (by omega) (by omega)
        rw [Int.natCast_zero,List.drop_zero] at e
        have hne:(((t.legs[i]).length:Int) != (r.legs.length:Int))=false:=by simp [hq]
        rw [hne,cond_false,e,decide_eq_true hq,Bool.true_and]
        cases (List.range r.legs.length).all (fun k=>decide ((r.legs[k]!).lo≤(t.legs[i])[k]!∧(t.legs[i])[k]!≤(r.legs[k]!).hi)) <;> rfl
      · have hne:(((t.legs[i]).length:Int) != (r.legs.length:Int))=true:=by simp; omega
        rw [hne,cond_true,decide_eq_false hq,Bool.false_and,Bool.false_and]
        rfl
    · have:i=t.legs.length:=by omega
      simp [this]
theorem OE (r:Af) (t:Au) (hl:r.legs.length≤20) (hb:t.legs.length≤20):∀ (n i:Nat),t.legs.length+30<n+i→i≤t.legs.length→DP n r t (i:Int)=some (if (t.legs.drop i).all (MT r) then Ex.go () else Ex.ret false)
  | 0,i,h,hi=>by omega
  | n+1,i,h,hi=>by
    rw [DP,Br]
    by_cases hx:i<t.legs.length
    · simp only [hx,decide_true,cond_true,AB _ _ hx,Option.bind_some]
      rw [A8 hx,List.all_cons,CY i (by omega),OE r t hl hb n (i+1) (by omega) (by omega)]
      unfold MT
      by_cases hq:(t.legs[i]).length=r.legs.length
      · have e:=OD r t i hx hl hq n 0 (by omega) (by omega)
        rw [Int.natCast_zero,List.drop_zero] at e
        have hne:(((t.legs[i]).length:Int) != (r.legs.length:Int))=false:=by simp [hq]
        rw [hne,cond_false,e,decide_eq_true hq,Bool.true_and]
        cases (List.range r.legs.length).all (fun k=>decide ((r.legs[k]!).lo≤(t.legs[i])[k]!∧(t.legs[i])[k]!≤(r.legs[k]!).hi)) <;> rfl
      · have hne:(((t.legs[i]).length:Int) != (r.legs.length:Int))=true:=by simp; omega
        rw [hne,cond_true,decide_eq_false hq,Bool.false_and,Bool.false_and]
        rfl
    · have:i=t.legs.length:=by omega
      simp [this]
theorem OF (n:Nat) (r:Af) (t:Au) (hn:60≤n) (hl:r.legs.length≤20) (hb:r.buses.length≤20) (hs:r.spares.length≤20) (ht:t.legs.length≤20):Cs n r t=some (HC r t):=by
  unfold Cs HC
  rw [HU (x:=((r.buses.length:Nat):Int)+((r.spares.length:Nat):Int)) (by omega) (by omega)]
  by_cases h1:t.tm.length=r.buses.length
  · by_cases h2:t.turns.length=r.buses.length
    · by_cases h3:t.legs.length=r.buses.length+r.spares.length
      · have e1:=Np r t hb h1 h2 n 0 (by omega) (by omega)
        have e2:=Nr r t hl ht n 0 (by omega) (by omega)
        simp only [Int.natCast_zero,List.drop_zero] at e1 e2
        have hz:(((t.legs.length:Nat):Int) != ((r.buses.length:Nat):Int)+((r.spares.length:Nat):Int))=false:=by simp; omega
        simp only [h1,h2,hz,bne_self_eq_false,cond_false,Option.bind_some,e1,e2]
        rw [decide_eq_true ⟨trivial,trivial,h3⟩,Bool.true_and]
        cases (List.range r.buses.length).all (MS r t) with
        | false=>rfl
        | true=>cases t.legs.all (MT r) <;> rfl
      · have:(((t.legs.length:Nat):Int) != ((r.buses.length:Nat):Int)+((r.spares.length:Nat):Int))=true:=by simp; omega
        simp only [h1,h2,h3,this,bne_self_eq_false,cond_false,cond_true,Option.bind_some,and_false,decide_false,Bool.false_and]
    · have:(((t.turns.length:Nat):Int) != ((r.buses.length:Nat):Int))=true:=by simp; omega
      simp only [h1,h2,this,bne_self_eq_false,cond_false,cond_true,Option.bind_some,false_and,and_false,decide_false,Bool.false_and]
  · have:(((t.tm.length:Nat):Int) != ((r.buses.length:Nat):Int))=true:=by simp; omega
    simp only [h1,this,cond_true,Option.bind_some,false_and,decide_false,Bool.false_and]
theorem Qn (n:Nat) (r:Af) (t:Au) (hn:60≤n) (hl:r.legs.length≤20) (hb:r.buses.length≤20) (hs:r.spares.length≤20) (ht:t.legs.length≤20):Ik n r t=some (HC r t):=by
  unfold Ik HC
  rw [HU (x:=((r.buses.length:Nat):Int)+((r.spares.length:Nat):Int)) (by omega) (by omega)]
  by_cases h1:t.tm.length=r.buses.length
  · by_cases h2:t.turns.length=r.buses.length
    · by_cases h3:t.legs.length=r.buses.length+r.spares.length
      · have e1:=OC r t hb h1 h2 n 0 (by omega) (by omega)
        have e2:=OE r t hl ht n 0 (by omega) (by omega)
        simp only [Int.natCast_zero,List.drop_zero] at e1 e2
        have hz:(((t.legs.length:Nat):Int) != ((r.buses.length:Nat):Int)+((r.spares.length:Nat):Int))=false:=by simp; omega
        simp only [h1,h2,hz,bne_self_eq_false,cond_false,Option.bind_some,e1,e2]
        rw [decide_eq_true ⟨trivial,trivial,h3⟩,Bool.true_and]
        cases (List.range r.buses.length).all (MS r t) with
        | false=>rfl
        | true=>cases t.legs.all (MT r) <;> rfl
      · have:(((t.legs.length:Nat):Int) != ((r.buses.length:Nat):Int)+((r.spares.length:Nat):Int))=true:=by simp; omega
        simp only [h1,h2,h3,this,bne_self_eq_false,cond_false,cond_true,Option.bind_some,and_false,decide_false,Bool.false_and]
    · have:(((t.turns.length:Nat):Int) != ((r.buses.length:Nat):Int))=true:=by simp; omega
      simp only [h1,h2,this,bne_self_eq_false,cond_false,cond_true,Option.bind_some,false_and,and_false,decide_false,Bool.false_and]
  · have:(((t.tm.length:Nat):Int) != ((r.buses.length:Nat):Int))=true:=by simp; omega
    simp only [h1,this,cond_true,Option.bind_some,false_and,decide_false,Bool.false_and]
theorem OG {r:Af} {t:Au} (h:HC r t=true):Gf r t:=by
  unfold HC at h
  rw [Bool.and_eq_true,Bool.and_eq_true,decide_eq_true_eq,List.all_eq_true,List.all_eq_true] at h
  obtain⟨⟨h1,h2,h3⟩,h4,h5⟩:=h
  have fb:∀ i<r.buses.length,MS r t i=true:=fun i hi=>h4 i (List.mem_range.2 hi)
  have lb:∀ i<r.buses.length+r.spares.length,MT r (t.legs[i]!)=true:=fun i hi=>by
    rw [Bv _ _ (by omega)]; exact h5 _ (List.getElem_mem _)
  refine⟨h1,h2,h3,fun i hi=>?_,fun i hi=>?_,fun i hi=>?_,fun i hi k x d hx hd=>?_⟩
  · have:=fb i hi
    unfold MS at this
    rw [Bool.and_eq_true,decide_eq_true_eq] at this
    exact this.1
  · have:=fb i hi
    unfold MS at this
    rw [Bool.and_eq_true,decide_eq_true_eq,decide_eq_true_eq] at this
    exact this.2
  · have:=lb i hi
    unfold MT at this
    rw [Bool.and_eq_true,decide_eq_true_eq] at this
    exact this.1
  · have:=lb i hi
    unfold MT at this
    rw [Bool.and_eq_true,decide_eq_true_eq,List.all_eq_true] at this
    have hk:=(List.getElem?_eq_some_iff.1 hx).1
    have h6:=this.2 k (List.mem_range.2 hk)
    rw [decide_eq_true_eq] at h6
    have e1:r.legs[k]! = x:=by rw [getElem!_def,hx]
    have e2:(t.legs[i]!)[k]! = d:=by rw [getElem!_def,hd]
    rwa [e1,e2] at h6
theorem Rd (n:Nat) (r:Af) (a:Aw) (t:Au) (hF:Bw r=0) (hA:Fc r a=true) (hT:HC r t=true) (hn:280≤n) (hn2:n≤900) :
    ∃ ml,BJ n r a t=some (ml,0)∧D4 n r a t=some (ml.map HO,0)∧ml.length=r.legs.length+1∧∀ (s:Nat) l,ml[s]? = some l→l.Pairwise (· < ·)∧(∀ y,y∈l↔y∈DA r a t s)∧l.length≤20:=by
  have V:=O8 hF
  have A:=KC hA
  have T:=OG hT
  have S:=T.sized V A
  have hok:=T.ok V A
  have:=V.nl
  have:=V.nb
  have:=V.ns
  have hlk:=V.looked
  obtain⟨ml,e1,e2,e3⟩:=Rb n r a t V S hok (by omega) hn2
  have e4:∀ (s:Nat) l,ml[s]? = some l→l.Pairwise (· < ·)∧(∀ y,y∈l↔y∈DA r a t s)∧l.length≤20:=fun s l hl=>by
    obtain⟨g1,g2,_⟩:=e3 s l hl
    have hs:s<r.legs.length+1:=by have:=(List.getElem?_eq_some_iff.1 hl).1; omega
    obtain⟨l',_,f2,f3,f4⟩:=Hm n r a t V S hok s hs (by omega) hn2
    have:l=l':=Hn g1 f2 fun y=>(g2 y).trans (f3 y).symm
    rw [this]
    exact⟨f2,f3,f4⟩
  have hM:BJ n r a t=some (ml,0):=by
    unfold BJ
    rw [Qf n r a (by omega) (by omega) (by omega) (by omega),hF,hA]
    simp only [ne_eq,not_true_eq_false,if_false,if_true,Option.bind_some,bne_self_eq_false,cond_false]
    rw [OF n r t (by omega) (by omega) (by omega) (by omega) (by have:=T.legs; omega),hT,Option.bind_some]
    simp only [Bool.not_true,cond_false]
    rw [e1,Option.bind_some]
  refine⟨ml,hM,?_,e2,e4⟩
  unfold D4
  rw [hM,Option.bind_some]
  simp only [bne_self_eq_false,cond_false]
  have e5:=OB ml 0 (by omega) (fun l hl=>by
    obtain⟨s,hs,rfl⟩:=List.mem_iff_getElem.1 hl
    obtain⟨g1,g2,g3⟩:=e4 s _ (List.getElem?_eq_getElem hs)
    have hs2:s<r.legs.length+1:=by omega
    refine⟨?_,by omega,fun x hx=>?_⟩
    · have:r.fr∈ml[s]:=(g2 _).2 ((Ic V hs2).2 (.inl rfl))
      exact List.length_pos_of_mem this
    · rcases(Ic V hs2).1 ((g2 x).1 hx) with rfl | rfl | ⟨_,h⟩ <;> omega) n 0 [] (by omega) (by omega) (by simp)
  rw [Int.natCast_zero,List.drop_zero] at e5
  rw [e5,Option.bind_some]
  rfl
end Go.Proofs.YtokchpjijlebiaaGreat
namespace Go.Proofs.YtokchpjijlebiaaGreat
open Go Go.RowKit
theorem Ns (t:Au) (hb:t.legs.length≤20) (hl:∀ x∈t.legs,x.length≤20):∀ (n i:Nat)(acc:List (List Int)),t.legs.length<n+i→i≤t.legs.length→acc.length=i→Dx n t acc (i:Int)=some (acc++t.legs.drop i)
  | 0,i,acc,h,hi,_=>by omega
  | n+1,i,acc,h,hi,ha=>by
    rw [Dx,Br]
    by_cases hx:i<t.legs.length
    · have h20:=hl _ (List.getElem_mem hx)
      simp only [hx,decide_true,cond_true,AB _ _ hx,Option.bind_some,F4 n _ (show(t.legs[i]).length≤1000 by omega)]
      rw [FO _ _ (by simp; omega)]
      simp only [Option.bind_some]
      rw [CY i (by omega),Ns t hb hl n (i+1) _ (by omega) (by omega) (by simp; omega),A8 hx,List.append_assoc]
      rfl
    · have:i=t.legs.length:=by omega
      simp [this]
theorem NT (n:Nat) (t:Au) (hn:30≤n) (h1:t.tm.length≤20) (h2:t.turns.length≤20) (hb:t.legs.length≤20) (hl:∀ x∈t.legs,x.length≤20):Ga n t=some t:=by
  unfold Ga
  have:=Ns t hb hl n 0 [] (by omega) (by omega) rfl
  rw [show((0:Nat):Int)=0 from rfl] at this
  rw [F4 n _ (by omega),F4 n _ (by omega),this]; rfl
def Eg (r:Af) (a:Aw) (t:Au):Int:=if Bw r≠0 then Bw r else if Fc r a then(if HC r t then 0 else 2) else 2
theorem QG (n:Nat) (r:Af) (a:Aw) (t:Au) (hn:60≤n) (h1:r.legs.length≤20) (h2:r.buses.length≤20) (h3:r.spares.length≤20) (h4:t.legs.length≤20) (he:Eg r a t≠0):BJ n r a t=some ([],Eg r a t)∧D4 n r a t=some ([],Eg r a t):=by
  have hM:BJ n r a t=some ([],Eg r a t):=by
    unfold BJ
    rw [Qf n r a (by omega) h1 h2 h3,Option.bind_some,OF n r t hn h1 h2 h3 h4]
    unfold Eg at he ⊢
    by_cases hF:Bw r=0
    · rw [hF] at he ⊢
      simp only [ne_eq,not_true_eq_false,if_false] at he ⊢
      cases hA:Fc r a with
      | false=>rfl
      | true =>
        rw [hA] at he
        cases hT:HC r t with
        | false=>rfl
        | true=>rw [hT] at he; simp at he
    · have:(Bw r != 0)=true:=by simpa using hF
      simp only [ne_eq,hF,not_false_eq_true,if_true,this,cond_true]
  refine⟨hM,?_⟩
  unfold D4
  rw [hM,Option.bind_some]
  have:(Eg r a t != 0)=true:=by simpa using he
  simp only [this,cond_true]
theorem Nt (t:Au):∀ (n i:Nat),10<n+i→i≤9→∃ e,Dy n t (i:Int)=some e∧(e=Ex.ret false∨e=Ex.go ()∧∀ k l,i≤k→k<9→t.legs[k]? = some l→l.length≤10)
  | 0,i,h,hi=>by omega
  | n+1,i,h,hi=>by
    rw [Dy,Br]
    by_cases hx:i<t.legs.length
    · simp only [hx,decide_true,cond_true,Option.bind_some]
      by_cases h9:i<9
      · rw [decide_eq_true (show(i:Int)<9 by omega),cond_true,AB _ _ hx,Option.bind_some]
        by_cases hg:(((t.legs[i]).length:Nat):Int)>10
        · rw [decide_eq_true hg,cond_true]
          exact⟨_,rfl,.inl rfl⟩
        · rw [decide_eq_false hg,cond_false,CY i (by omega)]
          obtain⟨e,h1,h2⟩:=Nt t n (i+1) (by omega) (by omega)
          refine⟨e,h1,h2.imp id fun h2=>⟨h2.1,fun k l hk hk9 hl=>?_⟩⟩
          by_cases hki:k=i
          · subst hki
            rw [List.getElem?_eq_getElem hx] at hl; cases hl; omega
          · exact h2.2 k l (by omega) hk9 hl
      · rw [decide_eq_false (show ¬ (i:Int)<9 by omega),cond_false]
        exact⟨_,rfl,.inr ⟨rfl,fun k l hk hk9 _=>by omega⟩⟩
    · simp only [hx,decide_false,cond_false,Option.bind_some]
      exact⟨_,rfl,.inr ⟨rfl,fun k l hk hk9 hl=>by have:=(List.getElem?_eq_some_iff.1 hl).1; omega⟩⟩
theorem Re (n:Nat) (a:Aw) (t:Au) (hn:20≤n):∃ b,GN n a t=some b∧(b=true→a.holds.length≤8∧a.turns.length≤8∧a.spares.length≤8∧t.tm.length≤8∧t.turns.length≤8∧t.legs.length≤8∧∀ x∈t.legs,x.length≤10):=by
  obtain⟨e,h1,h2⟩:=Nt t n 0 (by omega) (by omega)
  rw [Int.natCast_zero] at h1
  unfold GN
  rw [h1,Option.bind_some]
  rcases h2 with rfl | ⟨rfl,h2⟩
  · exact⟨false,rfl,fun h=>by cases h⟩
  · simp only [Ex.bind]
    have d8:∀ x:Nat,decide (((x:Nat):Int)≤8)=decide (x≤8):=fun x=>by rw [decide_eq_decide]; omega
    simp only [d8]
    refine⟨decide (a.holds.length≤8) && (decide (a.turns.length≤8) && (decide (a.spares.length≤8) && (decide (t.tm.length≤8) && (decide (t.turns.length≤8) && decide (t.legs.length≤8))))),?_,fun h=>?_⟩
    · cases decide (a.holds.length≤8) <;> cases decide (a.turns.length≤8) <;> cases decide (a.spares.length≤8) <;> cases decide (t.tm.length≤8) <;> cases decide (t.turns.length≤8) <;> cases decide (t.legs.length≤8) <;> rfl
    · simp only [Bool.and_eq_true,decide_eq_true_eq] at h
      obtain⟨q1,q2,q3,q4,q5,q6⟩:=h
      refine⟨q1,q2,q3,q4,q5,q6,fun x hx=>?_⟩
      obtain⟨k,hk,rfl⟩:=List.mem_iff_getElem.1 hx
      exact h2 k _ (by omega) (by omega) (List.getElem?_eq_getElem hk)
theorem RS (n:Nat) (r:Af):Ih n r=some (decide (r.legs.length≤10) && (decide (r.buses.length≤6) && decide (r.spares.length≤4))):=by
  unfold Ih
  rw [show decide (((r.legs.length:Nat):Int)≤10)=decide (r.legs.length≤10) by rw [decide_eq_decide]; omega,show decide (((r.buses.length:Nat):Int)≤6)=decide (r.buses.length≤6) by rw [decide_eq_decide]; omega,show decide (((r.spares.length:Nat):Int)≤4)=decide (r.spares.length≤4) by rw [decide_eq_decide]; omega]
  cases decide (r.legs.length≤10) <;> cases decide (r.buses.length≤6) <;> cases decide (r.spares.length≤4) <;> rfl
theorem JU (n:Nat) (r:Af) (a:Aw) (hn:60≤n) (h1:r.legs.length≤20) (h2:r.buses.length≤20) (h3:r.spares.length≤20):GO n r a=some (if Bw r≠0 then Bw r else if Fc r a then 0 else 2):=by
  unfold GO
  rw [Hi n r (by omega) (by omega) (by omega) (by omega),LR n r a (by omega) (by omega) (by omega),Option.bind_some]
  by_cases f0:Bw r=0
  · rw [f0]; cases Fc r a <;> rfl
  · have:(Bw r != 0)=true:=by simpa using f0
    simp [this,f0]
theorem Gu {r:Af} {a:Aw} {t:Au} (V:Dk r) (S:HV r a t) (hok:∀ p∈CV r a t,E3 r p) (ml:List (List Int)) (hl:ml.length=r.legs.length+1) (hm:∀ (s:Nat) l,ml[s]? = some l→l.Pairwise (· < ·)∧(∀ y,y∈l↔y∈DA r a t s)∧l.length≤20):∀ (n i:Nat),r.legs.length+120<n+i→n≤900→i≤r.legs.length+1→B0 n r a t (ml,0) (ml.map HO,0) (i:Int)=some (Ex.go ())
  | 0,i,h,_,hi=>by have:=V.nl; omega
  | n+1,i,h,hn,hi=>by
    have hnl:=V.nl
    rw [B0]
    simp only []
    rw [Br]
    by_cases hx:i<ml.length
    · have hs:i<r.legs.length+1:=by omega
      obtain⟨g1,g2,g3⟩:=hm i _ (List.getElem?_eq_getElem hx)
      obtain⟨l,f1,f2,f3,f4⟩:=Hm n r a t V S hok i hs (by omega) (by omega)
      obtain⟨l',e1,e2,e3⟩:=PC n r a t V S hok i hs (by omega) (by omega)
      have q1:l=ml[i]:=Hn f2 g1 fun y=>(f3 y).trans (g2 y).symm
      have q2:l' = ml[i]:=Hn e2 g1 fun y=>(e3 y).trans (g2 y).symm
      have hx2:i<(ml.map HO).length:=by simpa using hx
      rw [decide_eq_true hx,cond_true,AB _ _ hx,Option.bind_some,f1,Option.bind_some,q1,QC n _ (by omega) (by omega),Option.bind_some]
      simp only [Bool.not_true,cond_false]
      rw [AB _ _ hx2,Option.bind_some,e1,Option.bind_some,List.getElem_map,q2]
      simp only [bne_self_eq_false,cond_false]
      rw [CY i (by omega)]
      exact Gu V S hok ml hl hm n (i+1) (by omega) (by omega) (by omega)
    · rw [decide_eq_false hx,cond_false]
theorem KG (n:Nat) (hn:300≤n) (hn2:n≤900) (hw:EE n=some true) (r:Af) (a:Aw) (t:Au):Ei n r a t=some true:=by
  unfold Ei
  rw [RS,Option.bind_some]
  cases hb:(decide (r.legs.length≤10) && (decide (r.buses.length≤6) && decide (r.spares.length≤4))) with
  | false=>simp only [Bool.not_false,cond_true,Option.bind_some,hw]
  | true =>
    simp only [Bool.and_eq_true,decide_eq_true_eq] at hb
    obtain⟨b1,b2,b3⟩:=hb
    obtain⟨b,hs,hsb⟩:=Re n a t (by omega)
    simp only [Bool.not_true,cond_false,hs,Option.bind_some]
    cases b with
    | false=>simp only [Bool.not_false,cond_true,hw,Option.bind_some]
    | true =>
      obtain⟨q1,q2,q3,q4,q5,q6,q7⟩:=hsb rfl
      have hck:C0 n r=some (Bw r):=by
        unfold C0
        rw [O7 n r (by omega) (by omega) (by omega) (by omega)]; rfl
      simp only [Bool.not_true,cond_false]
      rw [NM n r (by omega) (by omega) (by omega) (by omega),Option.bind_some,hck,Option.bind_some,Option.bind_some,O5 n a (by omega) (by omega) (by omega),Option.bind_some,
        NT n t (by omega) (by omega) (by omega) (by omega) (fun x hx=>by have:=q7 x hx; omega),Option.bind_some]
      by_cases he:Eg r a t=0
      · have hF:Bw r=0:=by
          unfold Eg at he
          split at he
          · exact he
          · rename_i h; exact Decidable.not_not.1 h
        have hA:Fc r a=true:=by
          unfold Eg at he
          rw [if_neg (by rw [hF]; simp)] at he
          split at he
          · assumption
          · cases he
        have hT:HC r t=true:=by
          unfold Eg at he
          rw [if_neg (by rw [hF]; simp),if_pos hA] at he
          split at he
          · assumption
          · cases he
        have V:=O8 hF
        have T:=OG hT
        have S:=T.sized V (KC hA)
        obtain⟨ml,m1,m2,m3,m4⟩:=Rd n r a t hF hA hT (by omega) hn2
        rw [m1,Option.bind_some,Option.bind_some,Option.bind_some,Option.bind_some,m2,Option.bind_some,JU n r a (by omega) (by omega) (by omega) (by omega),Option.bind_some,Hi n r (by omega) (by omega) (by omega) (by omega),Option.bind_some,Qn n r t (by omega) (by omega) (by omega) (by omega) (by omega),hF,hA,hT]
        have hst:=FT n r (show r.legs.length≤20 by omega)
        have z1:((((ml,(0:Int)).1.length:Nat):Int) != (r.legs.length:Int)+1)=false:=by simp [m3]
        have z2:(((((ml.map HO),(0:Int)).1.length:Nat):Int) != (r.legs.length:Int)+1)=false:=by simp [m3]
        have hloop:=Gu V S (T.ok V (KC hA)) ml m3 m4 n 0 (by omega) hn2 (by omega)
        rw [Int.natCast_zero] at hloop
        simp only [bne_self_eq_false,cond_false,ne_eq,not_true_eq_false,if_false,if_true,beq_self_eq_true,cond_true,Option.bind_some,Bool.not_true]
        rw [hst,Option.bind_some,Option.bind_some]
        simp only [z1,z2,cond_false,Option.bind_some]
        rw [hloop,Option.bind_some]
        simp only [Ex.bind]
        rw [hw,Option.bind_some]
      · obtain⟨m1,m2⟩:=QG n r a t (by omega) (by omega) (by omega) (by omega) (by omega) he
        rw [m1,Option.bind_some,Option.bind_some,Option.bind_some,Option.bind_some,m2,Option.bind_some,JU n r a (by omega) (by omega) (by omega) (by omega),Option.bind_some,Hi n r (by omega) (by omega) (by omega) (by omega),Option.bind_some,Qn n r t (by omega) (by omega) (by omega) (by omega) (by omega)]
        have key:((((bif ((if Bw r≠0 then Bw r else if Fc r a then 0 else 2) == 0) then((some (HC r t)).bind fun x59=>some (!x59)) else some false):Option Bool).bind fun o_280=>(((bif o_280 then some 2 else some (if Bw r≠0 then Bw r else if Fc r a then 0 else 2)):Option Int))):Option Int)=some (Eg r a t):=by
          unfold Eg
          by_cases hF:Bw r=0
          · rw [hF]
            cases Fc r a <;> cases HC r t <;> rfl
          · have:(Bw r == 0)=false:=by simpa using hF
            simp only [ne_eq,hF,not_false_eq_true,if_true,this,cond_false,Option.bind_some]
        have hne:(Eg r a t != 0)=true:=by simpa using he
        rw [bne_self_eq_false,cond_false,← Option.bind_assoc,key,Option.bind_some,hne,cond_true]
        simp only [beq_self_eq_true,cond_true]
        show((bif true then((EE n).bind fun x=>some x) else some false:Option Bool).bind fun o=>some o)=some true
        rw [cond_true,hw]; rfl
end Go.Proofs.YtokchpjijlebiaaGreat
