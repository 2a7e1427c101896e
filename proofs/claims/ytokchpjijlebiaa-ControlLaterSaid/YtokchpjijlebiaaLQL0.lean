/- The plain law. -/
import Derived.Test.YtokchpjijlebiaaLQP0
set_option linter.all false
namespace Go.Proofs.Ytokchpjijlebiaa
open Go Go.RowKit
theorem FK {x:Int} (h0 : -9223372036854775808≤x) (h1:x≤9223372036854775807):IntKind.i64.wrap x=x:=by
  simp [IntKind.wrap,IntKind.bits,IntKind.signed]; omega
theorem Du (i:Nat) (h:i<1000000000000):IntKind.i64.wrap ((i:Int)+1)=((i+1:Nat):Int):=by
  rw [FK (by omega) (by omega)]; omega
theorem Rl {α:Type} (xs:List α) (i:Nat):Cr xs (i:Int)=xs[i]?:=rfl
theorem Bf {α:Type} (xs:List α) (i:Nat) (h:i<xs.length):Cr xs (i:Int)=some xs[i]:=by rw [Rl,List.getElem?_eq_getElem h]
theorem DI {α:Type} (xs ys:List α) (h:xs.length+ys.length≤1000000000):IU xs ys=some (xs++ys):=by
  unfold IU; rw [if_pos (by simpa using h)]
theorem Oj {α:Type} (xs:List α) (i:Nat) (y:α) (h:i<xs.length):upd xs (i:Int) y=some (xs.set i y):=by
  show(if i<xs.length then some (xs.set i y) else none)=_
  rw [if_pos h]
theorem Vn {α:Type} (n:Nat) (x:α) (h:n≤1000000000):mk (n:Int) x=some (List.replicate n x):=by
  unfold mk; rw [if_pos (by omega)]; rfl
theorem BA {α:Type} {xs:List α} {i:Nat} (h:i<xs.length):xs.drop i=xs[i]::xs.drop (i+1):=List.drop_eq_getElem_cons h
theorem BB {α:Type} (xs:List α) (i:Nat):decide ((i:Int)<((xs.length:Nat):Int))=decide (i<xs.length):=by
  by_cases h:i<xs.length <;> simp [h]
theorem FN (n:Nat) (l:List Int) (h:l.length≤1000):Fc n l=some l:=by
  unfold Fc
  simp [DI [] l (by simp; omega)]
theorem Ic (r:Af) (hb:r.legs.length≤1000):∀ (n i:Nat)(acc:List Rg),r.legs.length<n+i→i≤r.legs.length→acc.length=i→DA n r acc (i:Int)=some (acc++r.legs.drop i)
  | 0,i,acc,h,hi,_=>by omega
  | n+1,i,acc,h,hi,ha=>by
    rw [DA,BB]
    by_cases hx:i<r.legs.length
    · simp only [hx,decide_true,cond_true,Bf _ _ hx,Option.bind_some,IF]
      rw [DI _ _ (by simp; omega)]
      simp only [Option.bind_some]
      rw [Du i (by omega),Ic r hb n (i+1) _ (by omega) (by omega) (by simp; omega),BA hx,List.append_assoc]
      rfl
    · have:i=r.legs.length:=by omega
      simp [this]
theorem Ie (r:Af) (hb:r.buses.length≤1000):∀ (n i:Nat)(acc:List Ce),r.buses.length<n+i→i≤r.buses.length→acc.length=i→DB n r acc (i:Int)=some (acc++r.buses.drop i)
  | 0,i,acc,h,hi,_=>by omega
  | n+1,i,acc,h,hi,ha=>by
    rw [DB,BB]
    by_cases hx:i<r.buses.length
    · simp only [hx,decide_true,cond_true,Bf _ _ hx,Option.bind_some,IF]
      rw [DI _ _ (by simp; omega)]
      simp only [Option.bind_some]
      rw [Du i (by omega),Ie r hb n (i+1) _ (by omega) (by omega) (by simp; omega),BA hx,List.append_assoc]
      rfl
    · have:i=r.buses.length:=by omega
      simp [this]
theorem Ig (r:Af) (hb:r.spares.length≤1000):∀ (n i:Nat)(acc:List Az),r.spares.length<n+i→i≤r.spares.length→acc.length=i→DC n r acc (i:Int)=some (acc++r.spares.drop i)
  | 0,i,acc,h,hi,_=>by omega
  | n+1,i,acc,h,hi,ha=>by
    rw [DC,BB]
    by_cases hx:i<r.spares.length
    · simp only [hx,decide_true,cond_true,Bf _ _ hx,Option.bind_some]
      rw [DI _ _ (by simp; omega)]
      simp only [Option.bind_some]
      rw [Du i (by omega),Ig r hb n (i+1) _ (by omega) (by omega) (by simp; omega),BA hx,List.append_assoc]
      rfl
    · have:i=r.spares.length:=by omega
      simp [this]
theorem Kx (n:Nat) (r:Af) (hn:50≤n) (h1:r.legs.length≤20) (h2:r.buses.length≤20) (h3:r.spares.length≤20):DP n r=some r:=by
  unfold DP
  have e1:=Ic r (by omega) n 0 [] (by omega) (by omega) rfl
  have e2:=Ie r (by omega) n 0 [] (by omega) (by omega) rfl
  have e3:=Ig r (by omega) n 0 [] (by omega) (by omega) rfl
  simp only [Int.natCast_zero,List.nil_append,List.drop_zero] at e1 e2 e3
  simp [IF,e1,e2,e3]
theorem Qb (n:Nat) (a:As) (h1:a.holds.length≤20) (h2:a.turns.length≤20) (h3:a.spares.length≤20):FR n a=some a:=by
  unfold FR
  simp [FN n _ (show a.holds.length≤1000 by omega),FN n _ (show a.turns.length≤1000 by omega),DI [] a.spares (by simp; omega)]
end Go.Proofs.Ytokchpjijlebiaa
namespace Go.Proofs.Ytokchpjijlebiaa
open Go Go.RowKit
def Bw (st turned turn:Int) (legs:List Int):Nat→Int→Int→List (Int×Int)
  | 0,_,_=>[]
  | n+1,tm,s=>if 0≤s∧s<st then(s,tm)::(if s=turned then Bw st turned turn legs n (tm+turn) (st-1-s) else match legs[s.toNat]? with
    | some d=>Bw st turned turn legs n (tm+d) (s+1)
    | none=>[]) else []
def SS (turn:Int) (legs:List Int):Prop:=0≤turn∧turn≤300∧legs.length≤20∧∀ d∈legs,0≤d∧d≤300
theorem Dv (n:Nat) (r:Af) (h:r.legs.length≤20):Bg n r=some ((r.legs.length:Int)+1):=by
  simp only [Bg]; rw [FK (by omega) (by omega)]
theorem Gb (n:Nat) (r:Af) (s:Int) (h:r.legs.length≤20):BS n r s=some (decide (0≤s∧s<(r.legs.length:Int)+1)):=by
  simp only [BS,Dv n r h,Bh,Option.bind_some]
  rw [FK (by omega) (by omega)]
  by_cases h1:0≤s
  · simp [h1]; omega
  · simp [h1]
theorem Ky {σ:Type} (yield_:σ→Int→Int→Option (σ×Bool)) (g:σ→Int→Int→Option σ) (hy:∀ s a b,yield_ s a b=(g s a b).map fun s'=>(s',true)) (q0:AX) (q1:Af) (q2:Ax) (hl:q1.legs.length≤20) (hq:SS q2.turn q2.legs) (hql:q2.legs.length=q1.legs.length)
    (ht:2*q0.turned+1<(q1.legs.length:Int)+1):∀ (n:Nat)(tm s:Int)(x:σ),0≤tm→tm+300*n≤1000000000→0≤s→s≤(q1.legs.length:Int)+1→(q1.legs.length:Int)+1-s<n →
    (AH n yield_ q0 q1 q2 tm s x).bind (fun o=>Ex.bind o (fun r=>some r) fun s=>some s)=(Bw ((q1.legs.length:Int)+1) q0.turned q2.turn q2.legs n tm s).foldlM (fun x p=>g x p.1 p.2) x
  | 0,tm,s,x,_,_,_,h1,h2=>by omega
  | n+1,tm,s,x,h0,hb,hs,h1,h2=>by
    have IH:=Ky yield_ g hy q0 q1 q2 hl hq hql ht n
    obtain⟨t0,t1,hq1,hq2⟩:=hq
    rw [AH,Bw,Gb n q1 s hl]
    by_cases hc:0≤s∧s<(q1.legs.length:Int)+1
    · simp only [hc,and_self,decide_true,Option.bind_some,cond_true,if_true,hy,List.foldlM_cons]
      cases hg:g x s tm with
      | none=>simp
      | some x' =>
        simp only [Option.map_some,Option.bind_some,cond_true,Option.bind_eq_bind,Dv n q1 hl]
        by_cases hst:s=q0.turned
        · simp only [hst,beq_self_eq_true,cond_true,if_true]
          subst hst
          rw [FK (x:=tm+q2.turn) (by omega) (by omega),FK (x:=(q1.legs.length:Int)+1-1) (by omega) (by omega),FK (x:=(q1.legs.length:Int)+1-1-q0.turned) (by omega) (by omega)]
          exact IH _ _ _ (by omega) (by omega) (by omega) (by omega) (by omega)
        · simp only [beq_eq_false_iff_ne.2 hst,cond_false,hst,if_false]
          by_cases hsl:s<(q2.legs.length:Int)
          · simp only [hsl,decide_true,cond_true]
            obtain⟨k,rfl⟩:∃ k:Nat,s=k:=⟨s.toNat,by omega⟩
            have hk:k<q2.legs.length:=by omega
            have hd:=hq2 _ (List.getElem_mem hk)
            rw [Bf _ _ hk]
            simp only [Option.bind_some,Int.toNat_natCast,List.getElem?_eq_getElem hk]
            rw [FK (x:=tm+q2.legs[k]) (by omega) (by omega),FK (x:=(k:Int)+1) (by omega) (by omega)]
            exact IH _ _ _ (by omega) (by omega) (by omega) (by omega) (by omega)
          · simp only [hsl,decide_false,cond_false,Option.bind_some,Ex.bind]
            rw [List.getElem?_eq_none (by omega)]
            simp
    · simp only [hc,decide_false,Option.bind_some,cond_false,Ex.bind,if_false]
      simp
theorem Lu {σ:Type} (n:Nat) (yield_:σ→Int→Int→Option (σ×Bool)) (g:σ→Int→Int→Option σ) (hy:∀ s a b,yield_ s a b=(g s a b).map fun s'=>(s',true)) (q0:AX) (q1:Af) (q2:Ax) (x:σ) (hl:q1.legs.length≤20) (hq:SS q2.turn q2.legs) (hql:q2.legs.length=q1.legs.length)
    (ht:2*q0.turned+1<(q1.legs.length:Int)+1) (h0:0≤q0.tm) (h1:q0.tm≤100000) (hn:30≤n) (hn2:n≤1000) (hs:0≤q0.stop) (hs2:q0.stop≤(q1.legs.length:Int)+1) :
    AO n yield_ x q0 q1 q2=(Bw ((q1.legs.length:Int)+1) q0.turned q2.turn q2.legs n q0.tm q0.stop).foldlM (fun x p=>g x p.1 p.2) x :=
  Ky yield_ g hy q0 q1 q2 hl hq hql ht n q0.tm q0.stop x h0 (by omega) hs hs2 (by omega)
theorem Fa {st turned turn:Int} {legs:List Int} (ht:2*turned+1<st):∀ (n:Nat)(tm s:Int)(p:Int×Int),p∈Bw st turned turn legs n tm s→s≤p.1∧0≤p.1∧p.1<st
  | 0,_,_,_,h=>by simp [Bw] at h
  | n+1,tm,s,p,h=>by
    rw [Bw] at h
    split at h
    · rename_i hc
      rcases List.mem_cons.1 h with rfl | h
      · exact⟨Int.le_refl _,hc.1,hc.2⟩
      · split at h
        · have:=Fa ht n _ _ p h
          omega
        · split at h
          · have:=Fa ht n _ _ p h
            omega
          · simp at h
    · simp at h
theorem FO {st turned turn:Int} {legs:List Int} (ht:2*turned+1<st):∀ (n:Nat)(tm s:Int),((Bw st turned turn legs n tm s).map Prod.fst).Nodup
  | 0,_,_=>by simp [Bw]
  | n+1,tm,s=>by
    rw [Bw]
    split
    · rename_i hc
      rw [List.map_cons,List.nodup_cons]
      split
      · rename_i hs
        refine⟨fun h=>?_,FO ht n _ _⟩
        obtain⟨p,hp,hp2⟩:=List.mem_map.1 h
        have:=Fa ht n _ _ p hp
        simp only at hp2
        omega
      · split
        · refine⟨fun h=>?_,FO ht n _ _⟩
          obtain⟨p,hp,hp2⟩:=List.mem_map.1 h
          have:=Fa ht n _ _ p hp
          simp only at hp2
          omega
        · simp
    · simp
def MK (st turned turn:Int) (legs:List Int) (n:Nat) (tm s k:Int):Option Int:=BH (Bw st turned turn legs n tm s) k
theorem Oz {K α:Type} [DecidableEq K]:∀ {l:List (K×α)} {k:K} {x:α},BH l k=some x→(k,x)∈l
  | [],_,_,h=>by simp [BH] at h
  | p::r,k,x,h=>by
    rw [BH] at h
    split at h
    · rename_i hp; cases h; subst hp; simp
    · exact List.mem_cons_of_mem _ (Oz h)
theorem Hq {st turned:Int} {turn turn':Int} {legs legs':List Int} (ht:2*turned+1<st) (hl:legs.length=legs'.length) (hle:∀ (k:Nat)(d d':Int),legs[k]? = some d→legs'[k]? = some d'→d≤d') (h1:turn≤turn'):∀ (n:Nat)(tm tm' s k:Int),tm≤tm' →
    (MK st turned turn legs n tm s k=none∧MK st turned turn' legs' n tm' s k=none)∨∃ a b,MK st turned turn legs n tm s k=some a∧MK st turned turn' legs' n tm' s k=some b∧a≤b
  | 0,_,_,_,_,_=>.inl ⟨rfl,rfl⟩
  | n+1,tm,tm',s,k,h=>by
    unfold MK
    rw [Bw,Bw]
    by_cases hc:0≤s∧s<st
    · simp only [hc,and_self,if_true,BH]
      by_cases hk:s=k
      · simp only [hk,if_true]; exact .inr ⟨_,_,rfl,rfl,h⟩
      · simp only [hk,if_false]
        by_cases hs:s=turned
        · simp only [hs,if_true]
          exact Hq ht hl hle h1 n _ _ _ k (by omega)
        · simp only [hs,if_false]
          cases hg:legs[s.toNat]? with
          | none =>
            have:legs'[s.toNat]? = none:=by rw [List.getElem?_eq_none_iff] at hg ⊢; omega
            simp [this,BH]
          | some d =>
            have hlt:s.toNat<legs.length:=by
              rcases Nat.lt_or_ge s.toNat legs.length with h' | h'
              · exact h'
              · rw [List.getElem?_eq_none h'] at hg; cases hg
            obtain⟨d',hd'⟩:∃ d',legs'[s.toNat]? = some d':=⟨_,List.getElem?_eq_getElem (by omega)⟩
            simp only [hd']
            have:=hle _ _ _ hg hd'
            exact Hq ht hl hle h1 n _ _ _ k (by omega)
    · simp only [hc,if_false]; exact .inl ⟨rfl,rfl⟩
end Go.Proofs.Ytokchpjijlebiaa
namespace Go.Proofs.Ytokchpjijlebiaa
open Go Go.RowKit
def Dw (r:Af) (f:Rg→Int):Av:=⟨r.buses.map fun b=>f b.tm,r.buses.map fun _=>f r.turn,List.replicate (r.buses.length+r.spares.length) (r.legs.map f)⟩
theorem ML (r:Af) (f:Rg→Int) (F:Rg→Option Int) (hF:∀ x,F x=some (f x)) (hb:r.legs.length≤20):∀ (n i:Nat)(acc:List Int),r.legs.length<n+i→i≤r.legs.length→acc.length=i→B7 n r (Rj.mk F) acc (i:Int)=some (acc++(r.legs.drop i).map f)
  | 0,i,acc,h,hi,_=>by omega
  | n+1,i,acc,h,hi,ha=>by
    rw [B7,BB]
    by_cases hx:i<r.legs.length
    · simp only [hx,decide_true,cond_true,Bf _ _ hx,Option.bind_some,hF]
      rw [DI _ _ (by simp; omega)]
      simp only [Option.bind_some]
      rw [Du i (by omega),ML r f F hF hb n (i+1) _ (by omega) (by omega) (by simp; omega),BA hx,List.append_assoc]
      rfl
    · have:i=r.legs.length:=by omega
      simp [this]
theorem Kz (n:Nat) (l:List Int) (h:l.length≤1000):Bp n l=some l:=by
  unfold Bp
  simp [DI [] l (by simp; omega)]
theorem S1 (n:Nat) (l:List Bool) (h:l.length≤1000):Ci n l=some l:=by
  unfold Ci
  simp [DI [] l (by simp; omega)]
theorem MM (r:Af) (f:Rg→Int) (F:Rg→Option Int) (hF:∀ x,F x=some (f x)) (hb:r.buses.length≤20) (L:List Int) (hL:L.length≤20):∀ (n i:Nat)(x y:List Int)(z:List (List Int)),r.buses.length<n+i→i≤r.buses.length→x.length=i→y.length=i→z.length=i →
    B8 n r (Rj.mk F) L x y z (i:Int)=some (L,x++(r.buses.drop i).map (fun b=>f b.tm),y++(r.buses.drop i).map (fun _=>f r.turn),z++(r.buses.drop i).map (fun _=>L))
  | 0,i,x,y,z,h,hi,_,_,_=>by omega
  | n+1,i,x,y,z,h,hi,h1,h2,h3=>by
    rw [B8,BB]
    by_cases hx:i<r.buses.length
    · simp only [hx,decide_true,cond_true,Bf _ _ hx,Option.bind_some,hF,Kz n L (by omega)]
      rw [DI _ _ (by simp; omega),DI _ _ (by simp; omega),DI _ _ (by simp; omega)]
      simp only [Option.bind_some]
      rw [Du i (by omega),MM r f F hF hb L hL n (i+1) _ _ _ (by omega) (by omega) (by simp; omega) (by simp; omega) (by simp; omega),BA hx,List.append_assoc,List.append_assoc,List.append_assoc]
      rfl
    · have:i=r.buses.length:=by omega
      simp [this]
theorem MN (r:Af) (hb:r.spares.length≤20) (L:List Int) (hL:L.length≤20):∀ (n i:Nat)(z:List (List Int)),r.spares.length<n+i→i≤r.spares.length→z.length≤100+i →
    B9 n r L z (i:Int)=some (L,z++List.replicate (r.spares.length-i) L)
  | 0,i,z,h,hi,_=>by omega
  | n+1,i,z,h,hi,h3=>by
    rw [B9,BB]
    by_cases hx:i<r.spares.length
    · simp only [hx,decide_true,cond_true,Option.bind_some,Kz n L (by omega)]
      rw [DI _ _ (by simp; omega)]
      simp only [Option.bind_some]
      rw [Du i (by omega),MN r hb L hL n (i+1) _ (by omega) (by omega) (by simp; omega),List.append_assoc]
      rw [show r.spares.length-i=(r.spares.length-(i+1))+1 by omega,List.replicate_succ]
      rfl
    · have:i=r.spares.length:=by omega
      simp [this]
theorem RR (n:Nat) (r:Af) (f:Rg→Int) (F:Rg→Option Int) (hF:∀ x,F x=some (f x)) (hn:50≤n) (h1:r.legs.length≤20) (h2:r.buses.length≤20) (h3:r.spares.length≤20):Cw n r (Rj.mk F)=some (Dw r f):=by
  unfold Cw
  have e1:=ML r f F hF h1 n 0 [] (by omega) (by omega) rfl
  have e2:=MM r f F hF h2 (r.legs.map f) (by simp; omega) n 0 [] [] [] (by omega) (by omega) rfl rfl rfl
  have e3:=MN r h3 (r.legs.map f) (by simp; omega) n 0 (r.buses.map fun _=>r.legs.map f) (by omega) (by omega) (by simp; omega)
  simp only [Int.natCast_zero,List.nil_append,List.drop_zero,Nat.sub_zero] at e1 e2 e3
  simp only [e1,Option.bind_some,e2,e3,Dw,Option.some.injEq,Av.mk.injEq,true_and]
  rw [List.map_const',List.replicate_append_replicate]
def C1 (r:Af) (a:As) (t:Av) (i:Nat):AX×Ax:=(⟨(r.buses[i]!).stop,t.tm[i]! + a.holds[i]! * r.unit,a.turns[i]!⟩,⟨t.legs[i]!,t.turns[i]!⟩)
def Hd (r:Af) (a:As) (t:Av) (j:Nat):Option (AX×Ax):=if a.spares[j]! then some (⟨(r.spares[j]!).stop,(r.spares[j]!).tm,-1⟩,⟨t.legs[r.buses.length+j]!,0⟩) else none
def CA (r:Af) (a:As) (t:Av):List (AX×Ax):=(List.range r.buses.length).map (C1 r a t)++(List.range r.spares.length).filterMap (Hd r a t)
structure O0 (r:Af) (a:As) (t:Av):Prop where
  nb:r.buses.length≤6
  ns:r.spares.length≤4
  holds:a.holds.length=r.buses.length
  turns:a.turns.length=r.buses.length
  spares:a.spares.length=r.spares.length
  tm:t.tm.length=r.buses.length
  tt:t.turns.length=r.buses.length
  legs:t.legs.length=r.buses.length+r.spares.length
  hold:∀ x∈a.holds,0≤x∧x≤2
  unit:1≤r.unit∧r.unit≤30
  tms:∀ x∈t.tm,0≤x∧x≤10000
theorem BQ {α:Type} [Inhabited α] (l:List α) (i:Nat) (h:i<l.length):l[i]! = l[i]:=getElem!_pos l i h
theorem Lv {x u:Int} (h0:0≤x) (h1:x≤2) (h2:1≤u) (h3:u≤30):0≤x*u∧x*u≤60:=by
  have:x=0∨x=1∨x=2:=by omega
  rcases this with rfl | rfl | rfl <;> omega
theorem LN (r:Af) (a:As) (t:Av) (S:O0 r a t):∀ (n i:Nat)(x:List AX)(y:List Ax),r.buses.length<n+i→i≤r.buses.length→x.length=i→y.length=i →
    Bi n ⟨r,a⟩ t x y (i:Int)=some (x++((List.range r.buses.length).drop i).map (fun i=>(C1 r a t i).1),y++((List.range r.buses.length).drop i).map (fun i=>(C1 r a t i).2))
  | 0,i,x,y,h,hi,_,_=>by omega
  | n+1,i,x,y,h,hi,h1,h2=>by
    rw [Bi]
    simp only []
    rw [BB]
    have:=S.nb
    by_cases hx:i<r.buses.length
    · have q1:i<a.holds.length:=by rw [S.holds]; exact hx
      have q2:i<a.turns.length:=by rw [S.turns]; exact hx
      have q3:i<t.tm.length:=by rw [S.tm]; exact hx
      have q4:i<t.turns.length:=by rw [S.tt]; exact hx
      have q5:i<t.legs.length:=by rw [S.legs]; omega
      have q6:i<(List.range r.buses.length).length:=by simpa using hx
      obtain⟨b1,b2⟩:=Lv (S.hold _ (List.getElem_mem q1)).1 (S.hold _ (List.getElem_mem q1)).2 S.unit.1 S.unit.2
      have b3:=S.tms _ (List.getElem_mem q3)
      simp only [hx,decide_true,cond_true,Bf _ _ hx,Bf _ _ q1,Bf _ _ q2,Bf _ _ q3,Bf _ _ q4,Bf _ _ q5,Option.bind_some]
      rw [DI _ _ (by simp; omega),DI _ _ (by simp; omega)]
      simp only [Option.bind_some]
      rw [Du i (by omega),LN r a t S n (i+1) _ _ (by omega) (by omega) (by simp; omega) (by simp; omega),BA q6,List.append_assoc,List.append_assoc]
      rw [FK (x:=a.holds[i]*r.unit) (by omega) (by omega),FK (by omega) (by omega)]
      simp only [List.getElem_range,List.map_cons,C1,BQ _ _ hx,BQ _ _ q1,BQ _ _ q2,BQ _ _ q3,BQ _ _ q4,BQ _ _ q5]
      rfl
    · have:i=r.buses.length:=by omega
      simp [this]
theorem I0 (r:Af) (a:As) (t:Av) (S:O0 r a t):∀ (n i:Nat)(x:List AX)(y:List Ax),r.spares.length<n+i→i≤r.spares.length→x.length≤100+i→y.length≤100+i →
    AZ n ⟨r,a⟩ t x y (i:Int)=some (x++(((List.range r.spares.length).drop i).filterMap (Hd r a t)).map Prod.fst,y++(((List.range r.spares.length).drop i).filterMap (Hd r a t)).map Prod.snd)
  | 0,i,x,y,h,hi,_,_=>by omega
  | n+1,i,x,y,h,hi,h1,h2=>by
    rw [AZ]
    simp only []
    rw [BB]
    have:=S.ns
    have:=S.nb
    by_cases hx:i<r.spares.length
    · have q1:i<a.spares.length:=by rw [S.spares]; exact hx
      have q5:r.buses.length+i<t.legs.length:=by rw [S.legs]; omega
      have q6:i<(List.range r.spares.length).length:=by simpa using hx
      simp only [hx,decide_true,cond_true,Bf _ _ hx,Bf _ _ q1,Option.bind_some]
      rw [BA q6]
      simp only [List.getElem_range,List.filterMap_cons,Hd,BQ _ _ hx,BQ _ _ q1,BQ _ _ q5]
      cases hs:a.spares[i] with
      | true =>
        simp only [cond_true,if_true]
        rw [DI _ _ (by simp; omega)]
        simp only [Option.bind_some]
        rw [FK (x:=((r.buses.length:Nat):Int)+(i:Int)) (by omega) (by omega),show((r.buses.length:Nat):Int)+(i:Int)=((r.buses.length+i:Nat):Int) by omega,Bf _ _ q5]
        simp only [Option.bind_some]
        rw [DI _ _ (by simp; omega)]
        simp only [Option.bind_some]
        rw [Du i (by omega),I0 r a t S n (i+1) _ _ (by omega) (by omega) (by simp; omega) (by simp; omega),List.append_assoc,List.append_assoc]
        rfl
      | false =>
        simp only [cond_false]
        rw [Du i (by omega),I0 r a t S n (i+1) _ _ (by omega) (by omega) (by omega) (by omega)]
        rfl
    · have:i=r.spares.length:=by omega
      have hd:(List.range r.spares.length).drop r.spares.length=[]:=List.drop_eq_nil_of_le (by simp)
      simp [this,hd]
theorem MO (n:Nat) (r:Af) (a:As) (t:Av) (S:O0 r a t) (hn:50≤n):BE n ⟨r,a⟩ t=some ((CA r a t).map Prod.fst,(CA r a t).map Prod.snd):=by
  have:=S.nb
  have:=S.ns
  have e1:=LN r a t S n 0 [] [] (by omega) (by omega) rfl rfl
  have e2:=I0 r a t S n 0 ((List.range r.buses.length).map fun i=>(C1 r a t i).1) ((List.range r.buses.length).map fun i=>(C1 r a t i).2) (by omega) (by omega) (by simp; omega) (by simp; omega)
  simp only [Int.natCast_zero,List.nil_append,List.drop_zero] at e1 e2
  unfold BE
  simp only [e1,Option.bind_some,e2,CA,List.map_append,List.map_map]
  rfl
end Go.Proofs.Ytokchpjijlebiaa
namespace Go.Proofs.Ytokchpjijlebiaa
open Go Go.RowKit
def LO (ms:List (List (Int×Rg))) (f:Int→List (Int×Rg)→List (Int×Rg)) (pl:List (Int×Int)):List (List (Int×Rg)):=pl.foldl (fun ms p=>ms.modify p.1.toNat (f p.2)) ms
theorem Gr (f:Int→List (Int×Rg)→List (Int×Rg)):∀ (pl:List (Int×Int))(ms:List (List (Int×Rg))),(LO ms f pl).length=ms.length
  | [],_=>rfl
  | p::r,ms=>by
    show(LO (ms.modify p.1.toNat (f p.2)) f r).length=_
    rw [Gr f r]; simp
theorem Lw (f:Int→List (Int×Rg)→List (Int×Rg)):∀ (pl:List (Int×Int))(ms:List (List (Int×Rg)))(k:Nat),(pl.map Prod.fst).Nodup→(∀ p∈pl,0≤p.1) →
    (LO ms f pl)[k]? = (ms[k]?).map fun m=>match BH pl (k:Int) with | some t=>f t m | none=>m
  | [],ms,k,_,_=>by simp [LO,BH]
  | p::r,ms,k,hn,h0=>by
    show(LO (ms.modify p.1.toNat (f p.2)) f r)[k]? = _
    rw [List.map_cons,List.nodup_cons] at hn
    rw [Lw f r _ k hn.2 (fun q hq=>h0 q (List.mem_cons_of_mem _ hq)),List.getElem?_modify,BH]
    have hp:=h0 p (by simp)
    by_cases hk:p.1=(k:Int)
    · have hr:BH r (k:Int)=none:=Kj fun q hq hqk=>hn.1 (by rw [hk,← hqk]; exact List.mem_map_of_mem hq)
      have:p.1.toNat=k:=by omega
      simp only [this,if_true,if_pos hk,hr]
      cases ms[k]? <;> rfl
    · have:p.1.toNat≠k:=by omega
      simp only [this,hk,if_false]
      cases ms[k]? <;> rfl
theorem Lx (g:List (Option (List (Int×Rg)))→Int→Int→Option (List (Option (List (Int×Rg))))) (f:Int→List (Int×Rg)→List (Int×Rg)) (st:Nat)
    (hg:∀ (ms:List (List (Int×Rg)))(s:Nat)(t:Int),ms.length=st→s<st→g (ms.map some) (s:Int) t=some ((ms.modify s (f t)).map some)):∀ (pl:List (Int×Int))(ms:List (List (Int×Rg))),ms.length=st→(∀ p∈pl,0≤p.1∧p.1<(st:Int)) →
    pl.foldlM (fun x p=>g x p.1 p.2) (ms.map some)=some ((LO ms f pl).map some)
  | [],ms,_,_=>rfl
  | p::r,ms,hm,hp=>by
    have h1:=hp p (by simp)
    rw [List.foldlM_cons]
    have:g (ms.map some) p.1 p.2=some ((ms.modify p.1.toNat (f p.2)).map some):=by
      have:=hg ms p.1.toNat p.2 hm (by omega)
      rwa [show((p.1.toNat:Nat):Int)=p.1 by omega] at this
    rw [this]
    exact Lx g f st hg r _ (by simpa using hm) fun q hq=>hp q (List.mem_cons_of_mem _ hq)
theorem Ih {α:Type} (f:α→α):∀ (ms:List α)(s:Nat),(h:s<ms.length)→(ms.map some).set s (some (f ms[s]))=(ms.modify s f).map some:=by
  intro ms s h
  apply List.ext_getElem?
  intro k
  rw [List.getElem?_map,List.getElem?_modify,List.getElem?_set]
  by_cases hk:s=k
  · subst hk; simp [h]
  · simp [hk]
def Dx (st:Int) (n:Nat) (p:(AX×Ax)×(AX×Ax)) (k:Int):Option Rg:=match BH (Bw st p.1.1.turned p.1.2.turn p.1.2.legs n p.1.1.tm p.1.1.stop) k,BH (Bw st p.2.1.turned p.2.2.turn p.2.2.legs n p.2.1.tm p.2.1.stop) k with
  | some a,some b=>some ⟨a,b⟩
  | _,_=>none
def UW (st:Int) (n:Nat) (p:(AX×Ax)×(AX×Ax)):Prop:=∀ k,BH (Bw st p.1.1.turned p.1.2.turn p.1.2.legs n p.1.1.tm p.1.1.stop) k=none↔BH (Bw st p.2.1.turned p.2.2.turn p.2.2.legs n p.2.1.tm p.2.1.stop) k=none
structure F2 (r:Af) (p:AX×Ax):Prop where
  q:SS p.2.turn p.2.legs
  len:p.2.legs.length=r.legs.length
  t:2*p.1.turned+1<(r.legs.length:Int)+1
  tm0:0≤p.1.tm
  tm1:p.1.tm≤100000
  s0:0≤p.1.stop
  s1:p.1.stop≤(r.legs.length:Int)+1
theorem Qc {K α:Type} [DecidableEq K]:∀ {l:List (K×α)} {k:K} (x:α),(∀ p∈l,p.1≠k)→Fu l k x=l++[(k,x)]
  | [],_,_,_=>rfl
  | p::r,k,x,h=>by
    rw [Fu,if_neg (h p (by simp)),Qc x fun q hq=>h q (List.mem_cons_of_mem _ hq)]
    rfl
theorem Qd {K α:Type} [DecidableEq K]:∀ {l:List (K×α)} {k:K} (x y:α),(∀ p∈l,p.1≠k)→Fu (l++[(k,x)]) k y=l++[(k,y)]
  | [],k,x,y,_=>by simp [Fu]
  | p::r,k,x,y,h=>by
    rw [List.cons_append,Fu,if_neg (h p (by simp)),Qd x y fun q hq=>h q (List.mem_cons_of_mem _ hq)]
    rfl
theorem MP {K α:Type} [DecidableEq K]:∀ {l:List (K×α)} {k:K} (x:α),(∀ p∈l,p.1≠k)→BH (l++[(k,x)]) k=some x
  | [],k,x,_=>by simp [BH]
  | p::r,k,x,h=>by
    rw [List.cons_append,BH,if_neg (h p (by simp)),MP x fun q hq=>h q (List.mem_cons_of_mem _ hq)]
def g1 (i:Int) (s:List (Option (List (Int×Rg)))) (a b:Int):Option (List (Option (List (Int×Rg)))):=(Cr s a).bind fun x66=>x66.bind fun m=>(upd s a (some (Fu m i (Rg.mk b b)))).bind fun u=>some u
def g2 (i:Int) (s:List (Option (List (Int×Rg)))) (a b:Int):Option (List (Option (List (Int×Rg)))):=(Cr s a).bind fun x87=>(Cr s a).bind fun x92=>x92.bind fun m_514=>x87.bind fun m_527=>(upd s a (some (Fu m_527 i (Rg.mk (Gl m_514 i ((Rg.mk 0 0):Rg)).1.lo b)))).bind fun u=>some u
theorem UX (i:Int) (st:Nat) (ms:List (List (Int×Rg))) (s:Nat) (t:Int) (h1:ms.length=st) (h2:s<st):g1 i (ms.map some) (s:Int) t=some ((ms.modify s (fun m=>Fu m i (Rg.mk t t))).map some):=by
  have hs:s<ms.length:=by omega
  unfold g1
  rw [Bf _ s (by simpa using hs)]
  simp only [Option.bind_some,List.getElem_map]
  rw [Oj _ s _ (by simpa using hs)]
  simp only [Option.bind_some]
  rw [Ih (fun m=>Fu m i (Rg.mk t t)) ms s hs]
theorem UY (i:Int) (st:Nat) (ms:List (List (Int×Rg))) (s:Nat) (t:Int) (h1:ms.length=st) (h2:s<st):g2 i (ms.map some) (s:Int) t=some ((ms.modify s (fun m=>Fu m i (Rg.mk (Gl m i ((Rg.mk 0 0):Rg)).1.lo t))).map some):=by
  have hs:s<ms.length:=by omega
  unfold g2
  rw [Bf _ s (by simpa using hs)]
  simp only [Option.bind_some,List.getElem_map]
  rw [Oj _ s _ (by simpa using hs)]
  simp only [Option.bind_some]
  rw [Ih (fun m=>Fu m i (Rg.mk (Gl m i ((Rg.mk 0 0):Rg)).1.lo t)) ms s hs]
theorem He {α:Type} (x:Option α):(x.bind fun s1=>some (s1,true))=x.map fun s'=>(s',true):=by cases x <;> rfl
def Co (st:Int) (n:Nat) (k:Int):Nat→List ((AX×Ax)×(AX×Ax))→List (Int×Rg)
  | _,[]=>[]
  | i,p::r=>match Dx st n p k with
    | some x=>((i:Int),x)::Co st n k (i+1) r
    | none=>Co st n k (i+1) r
theorem LP (w:AL) (lo hi:List (AX×Ax)) (hl:w.route.legs.length≤20) (hlen:lo.length=hi.length) (h1:∀ p∈lo,F2 w.route p) (h2:∀ p∈hi,F2 w.route p) (N:Nat) (hN:60≤N) (hN2:N≤1000) (h20:lo.length≤20)
    (hA:∀ n,30≤n→n≤1000→∀ p∈lo.zip hi,UW ((w.route.legs.length:Int)+1) n p∧∀ k,Dx ((w.route.legs.length:Int)+1) n p k=Dx ((w.route.legs.length:Int)+1) 40 p k):∀ (n i:Nat)(ms:List (List (Int×Rg))),lo.length+30<n+i→n≤1000→i≤lo.length→ms.length=w.route.legs.length+1→(∀ m∈ms,∀ p∈m,p.1<(i:Int)) →
    Bk n w (lo.map Prod.fst,lo.map Prod.snd) (hi.map Prod.fst,hi.map Prod.snd) (ms.map some) (i:Int)=some (((List.range (w.route.legs.length+1)).map fun(k:Nat)=>(ms[k]?.getD [])++Co ((w.route.legs.length:Int)+1) 40 k i ((lo.zip hi).drop i)).map some)
  | 0,i,ms,h,_,hi',_,_=>by omega
  | n+1,i,ms,h,hn,hi',hm,hkeys=>by
    rw [Bk]
    simp only []
    rw [BB,List.length_map]
    by_cases hx:i<lo.length
    · have hxh:i<hi.length:=by omega
      have hz:i<(lo.zip hi).length:=by simp; omega
      have o1:=h1 _ (List.getElem_mem hx)
      have o2:=h2 _ (List.getElem_mem hxh)
      have hmem:(lo[i],hi[i])∈lo.zip hi:=by
        have:=List.getElem_mem hz
        rwa [List.getElem_zip] at this
      obtain⟨hAl,hSp⟩:=hA n (by omega) (by omega) _ hmem
      simp only [hx,decide_true,cond_true]
      rw [Bf _ i (by simpa using hx),Bf _ i (by simpa using hx),Bf _ i (by simpa using hxh),Bf _ i (by simpa using hxh)]
      simp only [Option.bind_some,List.getElem_map,BF]
      show((AO n (fun s a b=>(g1 i s a b).bind fun s1=>some (s1,true)) _ _ _ _).bind _)=_
      rw [Lu n _ (g1 i) (fun s a b=>He (g1 i s a b)) _ _ _ _ hl o1.q o1.len o1.t o1.tm0 o1.tm1 (by omega) (by omega) o1.s0 o1.s1]
      rw [Lx (g1 i) _ (w.route.legs.length+1) (UX i _) _ _ hm (fun p hp=>by
          have:=Fa o1.t n _ _ p hp
          constructor <;> omega)]
      simp only [Option.bind_some]
      show((AO n (fun s a b=>(g2 i s a b).bind fun s1=>some (s1,true)) _ _ _ _).bind _)=_
      rw [Lu n _ (g2 i) (fun s a b=>He (g2 i s a b)) _ _ _ _ hl o2.q o2.len o2.t o2.tm0 o2.tm1 (by omega) (by omega) o2.s0 o2.s1]
      rw [Lx (g2 i) _ (w.route.legs.length+1) (UY i _) _ _ (by rw [Gr]; exact hm) (fun p hp=>by
          have:=Fa o2.t n _ _ p hp
          constructor <;> omega)]
      simp only [Option.bind_some]
      rw [Du i (by omega)]
      -- each stop's map
      have hget:∀ k:Nat,(LO (LO ms (fun t m=>Fu m (i:Int) (Rg.mk t t)) (Bw ((w.route.legs.length:Int)+1) lo[i].1.turned lo[i].2.turn lo[i].2.legs n lo[i].1.tm lo[i].1.stop)) (fun t m=>Fu m (i:Int) (Rg.mk (Gl m (i:Int) ((Rg.mk 0 0):Rg)).1.lo t)) (Bw ((w.route.legs.length:Int)+1) hi[i].1.turned hi[i].2.turn hi[i].2.legs n hi[i].1.tm hi[i].1.stop))[k]? = (ms[k]?).map fun m=>m++(match Dx ((w.route.legs.length:Int)+1) 40 (lo[i],hi[i]) k with | some x=>[((i:Int),x)] | none=>[]):=fun k=>by
        rw [Lw _ _ _ k (FO o2.t n _ _) (fun p hp=>(Fa o2.t n _ _ p hp).2.1),Lw _ _ _ k (FO o1.t n _ _) (fun p hp=>(Fa o1.t n _ _ p hp).2.1),← hSp]
        cases hmk:ms[k]? with
        | none=>rfl
        | some m =>
          have hk:∀ p∈m,p.1≠(i:Int):=fun p hp=>by
            have:=hkeys m (List.mem_of_getElem? hmk) p hp
            omega
          have hal:=hAl k
          simp only [] at hal
          simp only [Option.map_some,Dx]
          cases hlo:BH (Bw ((w.route.legs.length:Int)+1) lo[i].1.turned lo[i].2.turn lo[i].2.legs n lo[i].1.tm lo[i].1.stop) (k:Int) with
          | none =>
            rw [hal.1 hlo]
            simp
          | some a =>
            cases hhi:BH (Bw ((w.route.legs.length:Int)+1) hi[i].1.turned hi[i].2.turn hi[i].2.legs n hi[i].1.tm hi[i].1.stop) (k:Int) with
            | none=>rw [hal.2 hhi] at hlo; cases hlo
            | some b =>
              simp only [Qc _ hk,Qd _ _ hk,Gl,MP _ hk]
      rw [LP w lo hi hl hlen h1 h2 N hN hN2 h20 hA n (i+1) _ (by omega) (by omega) (by omega) (by rw [Gr,Gr]; exact hm) (fun m hm' p hp=>by
        obtain⟨k,hk⟩:=List.mem_iff_getElem?.1 hm'
        rw [hget k] at hk
        obtain⟨m0,h3,rfl⟩:=Option.map_eq_some_iff.1 hk
        rcases List.mem_append.1 hp with hp | hp
        · have:=hkeys m0 (List.mem_of_getElem? h3) p hp
          omega
        · split at hp
          · simp at hp; subst hp; simp only; omega
          · simp at hp)]
      congr 2
      apply List.map_congr_left
      intro k hk
      rw [List.mem_range] at hk
      rw [hget k,BA hz,List.getElem_zip]
      have hkm:k<ms.length:=by omega
      rw [List.getElem?_eq_getElem hkm]
      simp only [Option.map_some,Option.getD_some,Co]
      cases Dx ((w.route.legs.length:Int)+1) 40 (lo[i],hi[i]) (k:Int) with
      | none=>simp
      | some x=>simp
    · have hxe:i=lo.length:=by omega
      have hd:(lo.zip hi).drop i=[]:=List.drop_eq_nil_of_le (by simp; omega)
      simp only [hx,decide_false,cond_false,hd,Co,List.append_nil,Option.some.injEq]
      congr 1
      apply List.ext_getElem?
      intro k
      rw [List.getElem?_map]
      by_cases hk:k<w.route.legs.length+1
      · rw [List.getElem?_range hk,List.getElem?_eq_getElem (by omega)]
        simp
        rw [List.getElem?_eq_getElem (by omega)]
        rfl
      · rw [List.getElem?_eq_none (by omega),List.getElem?_eq_none (by simp; omega)]
        rfl
end Go.Proofs.Ytokchpjijlebiaa
namespace Go.Proofs.Ytokchpjijlebiaa
open Go Go.RowKit
def DQ (x:Rg) (m:Int):Bool:=decide (0≤x.lo∧x.lo≤x.hi∧x.hi≤m)
def K0 (r:Af) (b:Ce):Bool:=decide (0≤b.stop∧b.stop≤(r.legs.length:Int)) && DQ b.tm 2000
def Gs (r:Af) (s:Az):Bool:=decide (0≤s.stop∧s.stop≤(r.legs.length:Int)) && decide (0≤s.tm∧s.tm≤2000)
def Pq (r:Af):Bool:=decide (r.legs.length % 2=1∧r.legs.length≤7) && DQ r.turn 300 && decide (1≤r.unit∧r.unit≤30) && decide (0≤r.gap∧r.gap≤2000) && decide (0≤r.fr∧r.fr≤r.to_∧r.to_≤2000) && r.legs.all (fun x=>DQ x 300) && r.buses.all (K0 r) && r.spares.all (Gs r)
def CB (r:Af):Int:=if r.buses.length>4∨r.spares.length>2 then 3 else if Pq r then 0 else 1
theorem Hr (n:Nat) (x a b:Int):F5 n x a b=some (decide (a≤x∧x≤b)):=by
  unfold F5
  by_cases h:a≤x <;> simp [h]
theorem Gv (n:Nat) (x a b:Int):Bh n x a b=some (decide (a≤x∧x≤b)):=by
  unfold Bh
  by_cases h:a≤x <;> simp [h]
theorem I3 (n:Nat) (x:Rg) (m:Int):G8 n x m=some (DQ x m):=by
  unfold G8 DQ
  rw [Hr]
  by_cases h:0≤x.lo∧x.lo≤x.hi
  · simp [h]
  · simp only [h,decide_false,Option.bind_some,cond_false,Option.some.injEq]
    symm; rw [decide_eq_false_iff_not]; omega
theorem RS (n:Nat) (x:Rg) (m:Int):Ct n x m=some (DQ x m):=by
  unfold Ct DQ
  by_cases h:0≤x.lo <;> by_cases h2:x.lo≤x.hi <;> simp [h,h2]
theorem Qe (n:Nat) (x:Rg):B0 n x=some (DQ x 300):=by
  unfold B0; rw [RS]; rfl
theorem O1 (n:Nat) (x:Int):C5 n x=some (decide (0≤x∧x≤2000)):=by
  unfold C5; rw [Gv]; rfl
theorem K1 (n:Nat) (r:Af) (h:r.legs.length≤20):Gx n r=some ((r.legs.length:Int)+1):=by
  unfold Gx; rw [FK (by omega) (by omega)]
theorem LQ (r:Af) (hb:r.legs.length≤20):∀ (n i:Nat),r.legs.length<n+i→i≤r.legs.length→D7 n r (i:Int)=some (if (r.legs.drop i).all (fun x=>DQ x 300) then Ex.go () else Ex.ret 1)
  | 0,i,h,hi=>by omega
  | n+1,i,h,hi=>by
    rw [D7,BB]
    by_cases hx:i<r.legs.length
    · simp only [hx,decide_true,cond_true,Bf _ _ hx,Option.bind_some,I3]
      rw [BA hx,List.all_cons]
      cases DQ r.legs[i] 300 with
      | true=>simp only [Bool.not_true,cond_false,Bool.true_and]; rw [Du i (by omega),LQ r hb n (i+1) (by omega) (by omega)]
      | false=>rfl
    · have:i=r.legs.length:=by omega
      simp [this]
theorem LR (r:Af) (hl:r.legs.length≤20) (hb:r.buses.length≤20):∀ (n i:Nat),r.buses.length<n+i→i≤r.buses.length→D8 n r (i:Int)=some (if (r.buses.drop i).all (K0 r) then Ex.go () else Ex.ret 1)
  | 0,i,h,hi=>by omega
  | n+1,i,h,hi=>by
    rw [D8,BB]
    by_cases hx:i<r.buses.length
    · simp only [hx,decide_true,cond_true,Bf _ _ hx,Option.bind_some,I3,K1 n r hl,Hr]
      rw [BA hx,List.all_cons,FK (x:=(r.legs.length:Int)+1-1) (by omega) (by omega),show(r.legs.length:Int)+1-1=r.legs.length by omega]
      unfold K0
      by_cases h1:0≤(r.buses[i]).stop∧(r.buses[i]).stop≤(r.legs.length:Int)
      · simp only [h1,and_self,decide_true,Bool.not_true,cond_false,Bool.true_and]
        cases DQ (r.buses[i]).tm 2000 with
        | true =>
          simp only [Bool.not_true,cond_false,Bool.true_and]; rw [Du i (by omega),LR r hl hb n (i+1) (by omega) (by omega)]
          rfl
        | false=>rfl
      · simp only [h1,decide_false,Bool.not_false,cond_true,Bool.false_and]
        rfl
    · have:i=r.buses.length:=by omega
      simp [this]
theorem LS (r:Af) (hl:r.legs.length≤20) (hb:r.spares.length≤20):∀ (n i:Nat),r.spares.length<n+i→i≤r.spares.length→D9 n r (i:Int)=some (if (r.spares.drop i).all (Gs r) then Ex.go () else Ex.ret 1)
  | 0,i,h,hi=>by omega
  | n+1,i,h,hi=>by
    rw [D9,BB]
    by_cases hx:i<r.spares.length
    · simp only [hx,decide_true,cond_true,Bf _ _ hx,Option.bind_some,K1 n r hl,Hr]
      rw [BA hx,List.all_cons,FK (x:=(r.legs.length:Int)+1-1) (by omega) (by omega),show(r.legs.length:Int)+1-1=r.legs.length by omega]
      unfold Gs
      by_cases h1:0≤(r.spares[i]).stop∧(r.spares[i]).stop≤(r.legs.length:Int)
      · simp only [h1,and_self,decide_true,Bool.not_true,cond_false,Bool.true_and]
        by_cases h2:0≤(r.spares[i]).tm∧(r.spares[i]).tm≤2000
        · simp only [h2,and_self,decide_true,Bool.not_true,cond_false,Bool.true_and]; rw [Du i (by omega),LS r hl hb n (i+1) (by omega) (by omega)]
          rfl
        · simp only [h2,decide_false,Bool.not_false,cond_true,Bool.false_and]
          rfl
      · simp only [h1,decide_false,Bool.not_false,cond_true,Bool.false_and]
        rfl
    · have:i=r.spares.length:=by omega
      simp [this]
theorem Ut (k:Nat) (h:k≤1000):Int.tmod ((k:Nat):Int) 2=((k % 2:Nat):Int):=rfl
theorem K2 (n:Nat) (r:Af) (hn:50≤n) (h1:r.legs.length≤20) (h2:r.buses.length≤20) (h3:r.spares.length≤20):Gy n r=some (CB r):=by
  unfold Gy CB
  have e1:=LQ r h1 n 0 (by omega) (by omega)
  have e2:=LR r h1 h2 n 0 (by omega) (by omega)
  have e3:=LS r h1 h3 n 0 (by omega) (by omega)
  simp only [Int.natCast_zero,List.drop_zero] at e1 e2 e3
  simp only [I3,Hr,e1,e2,e3,Option.bind_some,Ut _ (show r.legs.length≤1000 by omega)]
  by_cases a1:r.buses.length>4
  · have a1':decide (((r.buses.length:Nat):Int)>4)=true:=by simp; omega
    simp only [a1',a1,cond_true,Option.bind_some,true_or,if_true]
  have a1':decide (((r.buses.length:Nat):Int)>4)=false:=by simp; omega
  by_cases a2:r.spares.length>2
  · have a2':decide (((r.spares.length:Nat):Int)>2)=true:=by simp; omega
    simp only [a1',a2',a2,cond_true,cond_false,Option.bind_some,or_true,if_true]
  have a2':decide (((r.spares.length:Nat):Int)>2)=false:=by simp; omega
  simp only [a1',a2',cond_false,Option.bind_some,a1,a2,or_self,if_false]
  unfold Pq
  by_cases b1 : ¬ (r.legs.length % 2=1)
  · have:r.legs.length % 2=0:=by omega
    simp [this]
  replace b1:=Decidable.not_not.1 b1
  have b1':(((r.legs.length % 2:Nat):Int) == 0)=false:=by rw [b1]; rfl
  by_cases b2 : ¬ (r.legs.length≤7)
  · have b2':decide (((r.legs.length:Nat):Int)>7)=true:=by simp; omega
    simp only [b1',b2',b2,and_false,decide_false,Bool.false_and,cond_false,cond_true,Option.bind_some]
    rfl
  replace b2:=Decidable.not_not.1 b2
  have b2':decide (((r.legs.length:Nat):Int)>7)=false:=by simp; omega
  simp only [b1',b2',cond_false,b1,b2,and_self,decide_true,Bool.true_and]
  cases DQ r.turn 300
  · simp
  simp only [Bool.not_true,cond_false,Bool.true_and]
  by_cases b3 : ¬ (1≤r.unit∧r.unit≤30)
  · simp [b3]
  replace b3:=Decidable.not_not.1 b3
  simp only [b3,and_self,decide_true,Bool.not_true,cond_false,Option.bind_some,Bool.true_and]
  by_cases b4 : ¬ (0≤r.gap∧r.gap≤2000)
  · simp [b4]
  replace b4:=Decidable.not_not.1 b4
  simp only [b4,and_self,decide_true,Bool.not_true,cond_false,Option.bind_some,Bool.true_and]
  by_cases b5 : ¬ (0≤r.fr∧r.fr≤r.to_)
  · simp only [b5,decide_false,Bool.not_false,cond_true,Option.bind_some]
    have : ¬ (0≤r.fr∧r.fr≤r.to_∧r.to_≤2000):=fun h=>b5 ⟨h.1,h.2.1⟩
    simp [this]
  replace b5:=Decidable.not_not.1 b5
  simp only [b5,and_self,decide_true,Bool.not_true,cond_false,Option.bind_some]
  by_cases b6 : ¬ (r.to_≤2000)
  · have : ¬ (0≤r.fr∧r.fr≤r.to_∧r.to_≤2000):=fun h=>b6 h.2.2
    have b6':decide (r.to_>2000)=true:=by simp; omega
    simp only [b6,b6',and_false,decide_false,Bool.false_and,cond_true,Option.bind_some]
    rfl
  replace b6:=Decidable.not_not.1 b6
  have b6':decide (r.to_>2000)=false:=by simp; omega
  simp only [b6',b6,b5,and_self,decide_true,cond_false,Bool.true_and]
  cases r.legs.all (fun x=>DQ x 300)
  · rfl
  cases r.buses.all (K0 r)
  · rfl
  cases r.spares.all (Gs r)
  · rfl
  rfl
theorem Ii (l:List Rg) (F:Rg→Option Bool) (p:Rg→Bool) (hF:∀ x,F x=some (p x)) (hb:l.length≤20):∀ (n i:Nat),l.length<n+i→i≤l.length→∃ e,Aq n l F (i:Int)=some e∧((∃ k:Nat,e=Ex.ret (k:Int))∧(l.drop i).any p=true∨e=Ex.go ()∧(l.drop i).any p=false)
  | 0,i,h,hi=>by omega
  | n+1,i,h,hi=>by
    rw [Aq,BB]
    by_cases hx:i<l.length
    · simp only [hx,decide_true,cond_true,Bf _ _ hx,Option.bind_some,hF]
      rw [BA hx,List.any_cons]
      cases p l[i] with
      | true=>exact⟨_,rfl,.inl ⟨⟨i,rfl⟩,rfl⟩⟩
      | false=>simp only [cond_false,Bool.false_or]; rw [Du i (by omega)]; exact Ii l F p hF hb n (i+1) (by omega) (by omega)
    · have:i=l.length:=by omega
      exact⟨Ex.go (),by simp [this],.inr ⟨rfl,by simp [this]⟩⟩
theorem S2 (n:Nat) (hn:50≤n) (l:List Rg) (F:Rg→Option Bool) (p:Rg→Bool) (hF:∀ x,F x=some (p x)) (hb:l.length≤20):BJ n l F=some (l.all p):=by
  unfold BJ A8 AE
  obtain⟨e,he,h⟩:=Ii l (fun y0=>AM n y0 F) (fun x=>!p x) (fun x=>by simp [AM,hF]) hb n 0 (by omega) (by omega)
  simp only [Int.natCast_zero,List.drop_zero] at he h
  rw [he]
  have hall:l.all p=!(l.any fun x=>!p x):=by rw [List.not_any_eq_all_not]; simp
  rcases h with⟨⟨k,rfl⟩,h⟩ | ⟨rfl,h⟩
  · rw [hall,h]
    simp [Ex.bind]
  · rw [hall,h]
    simp [Ex.bind]
theorem Hs (l:List Ce) (F:Ce→Option Bool) (p:Ce→Bool) (hF:∀ x,F x=some (p x)) (hb:l.length≤20):∀ (n i:Nat),l.length<n+i→i≤l.length→∃ e,At n l F (i:Int)=some e∧((∃ k:Nat,e=Ex.ret (k:Int))∧(l.drop i).any p=true∨e=Ex.go ()∧(l.drop i).any p=false)
  | 0,i,h,hi=>by omega
  | n+1,i,h,hi=>by
    rw [At,BB]
    by_cases hx:i<l.length
    · simp only [hx,decide_true,cond_true,Bf _ _ hx,Option.bind_some,hF]
      rw [BA hx,List.any_cons]
      cases p l[i] with
      | true=>exact⟨_,rfl,.inl ⟨⟨i,rfl⟩,rfl⟩⟩
      | false=>simp only [cond_false,Bool.false_or]; rw [Du i (by omega)]; exact Hs l F p hF hb n (i+1) (by omega) (by omega)
    · have:i=l.length:=by omega
      exact⟨Ex.go (),by simp [this],.inr ⟨rfl,by simp [this]⟩⟩
theorem Rm (n:Nat) (hn:50≤n) (l:List Ce) (F:Ce→Option Bool) (p:Ce→Bool) (hF:∀ x,F x=some (p x)) (hb:l.length≤20):BW n l F=some (l.all p):=by
  unfold BW AJ AY
  obtain⟨e,he,h⟩:=Hs l (fun y0=>Bc n y0 F) (fun x=>!p x) (fun x=>by simp [Bc,hF]) hb n 0 (by omega) (by omega)
  simp only [Int.natCast_zero,List.drop_zero] at he h
  rw [he]
  have hall:l.all p=!(l.any fun x=>!p x):=by rw [List.not_any_eq_all_not]; simp
  rcases h with⟨⟨k,rfl⟩,h⟩ | ⟨rfl,h⟩
  · rw [hall,h]
    simp [Ex.bind]
  · rw [hall,h]
    simp [Ex.bind]
theorem G0 (l:List Az) (F:Az→Option Bool) (p:Az→Bool) (hF:∀ x,F x=some (p x)) (hb:l.length≤20):∀ (n i:Nat),l.length<n+i→i≤l.length→∃ e,Ar n l F (i:Int)=some e∧((∃ k:Nat,e=Ex.ret (k:Int))∧(l.drop i).any p=true∨e=Ex.go ()∧(l.drop i).any p=false)
  | 0,i,h,hi=>by omega
  | n+1,i,h,hi=>by
    rw [Ar,BB]
    by_cases hx:i<l.length
    · simp only [hx,decide_true,cond_true,Bf _ _ hx,Option.bind_some,hF]
      rw [BA hx,List.any_cons]
      cases p l[i] with
      | true=>exact⟨_,rfl,.inl ⟨⟨i,rfl⟩,rfl⟩⟩
      | false=>simp only [cond_false,Bool.false_or]; rw [Du i (by omega)]; exact G0 l F p hF hb n (i+1) (by omega) (by omega)
    · have:i=l.length:=by omega
      exact⟨Ex.go (),by simp [this],.inr ⟨rfl,by simp [this]⟩⟩
theorem Pr (n:Nat) (hn:50≤n) (l:List Az) (F:Az→Option Bool) (p:Az→Bool) (hF:∀ x,F x=some (p x)) (hb:l.length≤20):BK n l F=some (l.all p):=by
  unfold BK A9 AF
  obtain⟨e,he,h⟩:=G0 l (fun y0=>AN n y0 F) (fun x=>!p x) (fun x=>by simp [AN,hF]) hb n 0 (by omega) (by omega)
  simp only [Int.natCast_zero,List.drop_zero] at he h
  rw [he]
  have hall:l.all p=!(l.any fun x=>!p x):=by rw [List.not_any_eq_all_not]; simp
  rcases h with⟨⟨k,rfl⟩,h⟩ | ⟨rfl,h⟩
  · rw [hall,h]
    simp [Ex.bind]
  · rw [hall,h]
    simp [Ex.bind]
theorem Rn (n:Nat) (b:Ce) (r:Af) (h:r.legs.length≤20):B4 n b r=some (K0 r b):=by
  unfold B4 K0
  rw [Gb n r _ h,RS]
  by_cases h1:0≤b.stop∧b.stop≤(r.legs.length:Int)
  · have:0≤b.stop∧b.stop<(r.legs.length:Int)+1:=⟨h1.1,by omega⟩
    simp [h1,this]
  · have : ¬ (0≤b.stop∧b.stop<(r.legs.length:Int)+1):=fun h=>h1 ⟨h.1,by omega⟩
    simp only [this,h1,decide_false,Option.bind_some,cond_false,Bool.false_and]
theorem Ro (n:Nat) (b:Az) (r:Af) (h:r.legs.length≤20):B5 n b r=some (Gs r b):=by
  unfold B5 Gs
  rw [Gb n r _ h,O1]
  by_cases h1:0≤b.stop∧b.stop≤(r.legs.length:Int)
  · have:0≤b.stop∧b.stop<(r.legs.length:Int)+1:=⟨h1.1,by omega⟩
    simp [h1,this]
  · have : ¬ (0≤b.stop∧b.stop<(r.legs.length:Int)+1):=fun h=>h1 ⟨h.1,by omega⟩
    simp only [this,h1,decide_false,Option.bind_some,cond_false,Bool.false_and]
theorem Jx (n:Nat) (r:Af) (h:r.legs.length≤20):BD n r=some ((((r.legs.length+1) / 2:Nat):Int)):=by
  unfold BD
  rw [Dv n r h]
  simp only [Option.bind_some,Option.some.injEq]
  rw [show((r.legs.length:Int)+1)=((r.legs.length+1:Nat):Int) by omega,show Int.tdiv ((r.legs.length+1:Nat):Int) 2=(((r.legs.length+1) / 2:Nat):Int) from rfl,FK (by omega) (by omega)]
theorem Qf (n:Nat) (r:Af) (hn:50≤n) (h1:r.legs.length≤20) (h2:r.buses.length≤20) (h3:r.spares.length≤20):BL n r=some (CB r):=by
  unfold BL CB
  rw [S2 n hn r.legs _ (fun x=>DQ x 300) (fun x=>Qe n x) h1,Rm n hn r.buses _ (K0 r) (fun x=>Rn n x r h1) h2,Pr n hn r.spares _ (Gs r) (fun x=>Ro n x r h1) h3]
  simp only [Qe,Gv,O1,Jx n r h1,Option.bind_some,Ut _ (show r.legs.length≤1000 by omega)]
  by_cases a1:r.buses.length>4
  · have a1':decide (((r.buses.length:Nat):Int)>4)=true:=by simp; omega
    simp only [a1',a1,cond_true,Option.bind_some,true_or,if_true]
  have a1':decide (((r.buses.length:Nat):Int)>4)=false:=by simp; omega
  by_cases a2:r.spares.length>2
  · have a2':decide (((r.spares.length:Nat):Int)>2)=true:=by simp; omega
    simp only [a1',a2',a2,cond_true,cond_false,Option.bind_some,or_true,if_true]
  have a2':decide (((r.spares.length:Nat):Int)>2)=false:=by simp; omega
  simp only [a1',a2',cond_false,Option.bind_some,a1,a2,or_self,if_false]
  unfold Pq
  by_cases b1 : ¬ (r.legs.length % 2=1)
  · have:r.legs.length % 2=0:=by omega
    simp [this]
  replace b1:=Decidable.not_not.1 b1
  have b1':(((r.legs.length % 2:Nat):Int) == 0)=false:=by rw [b1]; rfl
  by_cases b2 : ¬ (r.legs.length≤7)
  · have b2':decide ((((r.legs.length+1) / 2:Nat):Int)>4)=true:=by simp; omega
    simp only [b1',b2',b2,and_false,decide_false,Bool.false_and,cond_false,cond_true,Option.bind_some]
    rfl
  replace b2:=Decidable.not_not.1 b2
  have b2':decide ((((r.legs.length+1) / 2:Nat):Int)>4)=false:=by simp; omega
  simp only [b1',b2',cond_false,b1,b2,and_self,decide_true,Bool.true_and]
  cases r.legs.all (fun x=>DQ x 300)
  · simp
  cases DQ r.turn 300
  · simp
  cases r.buses.all (K0 r)
  · simp
  cases r.spares.all (Gs r)
  · simp
  simp only [Bool.not_true,cond_false,Bool.true_and,Bool.and_true,Option.bind_some]
  by_cases b3 : ¬ (1≤r.unit∧r.unit≤30)
  · simp [b3]
  replace b3:=Decidable.not_not.1 b3
  by_cases b4 : ¬ (0≤r.gap∧r.gap≤2000)
  · simp [b3,b4]
  replace b4:=Decidable.not_not.1 b4
  simp only [b3,b4,and_self,decide_true,Bool.not_true,cond_false,Option.bind_some,Bool.true_and]
  by_cases b5 : ¬ (0≤r.fr∧r.fr≤2000)
  · have : ¬ (0≤r.fr∧r.fr≤r.to_∧r.to_≤2000):=fun h=>b5 ⟨h.1,by omega⟩
    simp [b5,this]
  replace b5:=Decidable.not_not.1 b5
  by_cases b6 : ¬ (0≤r.to_∧r.to_≤2000)
  · have : ¬ (0≤r.fr∧r.fr≤r.to_∧r.to_≤2000):=fun h=>b6 ⟨by omega,h.2.2⟩
    simp [b5,b6]; omega
  replace b6:=Decidable.not_not.1 b6
  simp only [b5,b6,and_self,decide_true,Bool.not_true,cond_false,Option.bind_some]
  by_cases b7:r.fr>r.to_
  · have : ¬ (0≤r.fr∧r.fr≤r.to_∧r.to_≤2000):=fun h=>by omega
    have b7':decide (r.fr>r.to_)=true:=by simp; omega
    simp only [b7',cond_true]
    simp; omega
  · have b7':decide (r.fr>r.to_)=false:=by simp; omega
    simp only [b7',cond_false]
    simp; omega
structure Cf (r:Af):Prop where
  nb:r.buses.length≤4
  ns:r.spares.length≤2
  odd:r.legs.length % 2=1
  nl:r.legs.length≤7
  turn:0≤r.turn.lo∧r.turn.lo≤r.turn.hi∧r.turn.hi≤300
  unit:1≤r.unit∧r.unit≤30
  gap:0≤r.gap∧r.gap≤2000
  looked:0≤r.fr∧r.fr≤r.to_∧r.to_≤2000
  legs:∀ x∈r.legs,0≤x.lo∧x.lo≤x.hi∧x.hi≤300
  buses:∀ b∈r.buses,0≤b.stop∧b.stop≤(r.legs.length:Int)∧0≤b.tm.lo∧b.tm.lo≤b.tm.hi∧b.tm.hi≤2000
  spares:∀ s∈r.spares,0≤s.stop∧s.stop≤(r.legs.length:Int)∧0≤s.tm∧s.tm≤2000
theorem Ht {r:Af} (h:CB r=0):Cf r:=by
  unfold CB at h
  split at h
  · cases h
  rename_i h1
  split at h
  · rename_i h2
    simp only [Pq,DQ,Bool.and_eq_true,decide_eq_true_eq,List.all_eq_true] at h2
    obtain⟨⟨⟨⟨⟨⟨⟨q1,q2⟩,q3⟩,q4⟩,q5⟩,q6⟩,q7⟩,q8⟩:=h2
    refine⟨by omega,by omega,q1.1,q1.2,q2,q3,q4,q5,q6,fun b hb=>?_,fun s hs=>?_⟩
    · have:=q7 b hb
      simp only [K0,DQ,Bool.and_eq_true,decide_eq_true_eq] at this
      exact⟨this.1.1,this.1.2,this.2⟩
    · have:=q8 s hs
      simp only [Gs,Bool.and_eq_true,decide_eq_true_eq] at this
      exact⟨this.1.1,this.1.2,this.2⟩
  · cases h
end Go.Proofs.Ytokchpjijlebiaa
namespace Go.Proofs.Ytokchpjijlebiaa
open Go Go.RowKit
def Hu (r:Af) (a:As) (i:Nat):Bool:=decide (0≤a.holds[i]!∧a.holds[i]!≤2) && (decide (a.turns[i]! = -1) || decide ((r.buses[i]!).stop≤a.turns[i]!∧a.turns[i]!≤(((r.legs.length+1) / 2:Nat):Int)-2))
def D4 (r:Af) (a:As):Bool:=decide (a.holds.length=r.buses.length∧a.turns.length=r.buses.length∧a.spares.length=r.spares.length) && (List.range r.buses.length).all (Hu r a)
theorem Ok (n:Nat) (r:Af) (h:r.legs.length≤20):G7 n r=some ((((r.legs.length+1) / 2:Nat):Int)):=by
  unfold G7
  rw [FK (x:=(r.legs.length:Int)+1) (by omega) (by omega),show((r.legs.length:Int)+1)=((r.legs.length+1:Nat):Int) by omega,show Int.tdiv ((r.legs.length+1:Nat):Int) 2=(((r.legs.length+1) / 2:Nat):Int) from rfl,FK (by omega) (by omega)]
theorem Qg (n:Nat) (r:Af) (b:Ce) (t:Int) (h:r.legs.length≤20):Cp n r b t=some (decide (t=-1) || decide (b.stop≤t∧t≤(((r.legs.length+1) / 2:Nat):Int)-2)):=by
  unfold Cp
  rw [Jx n r h]
  simp only [Option.bind_some,Gv]
  rw [FK (by omega) (by omega)]
  by_cases ht:t=-1
  · simp [ht]
  · rw [beq_eq_false_iff_ne.2 ht]
    simp [ht]
theorem JJ (r:Af) (a:As) (hl:r.legs.length≤20) (hb:r.buses.length≤20) (h1:a.holds.length=r.buses.length) (h2:a.turns.length=r.buses.length):∀ (n i:Nat),r.buses.length<n+i→i≤r.buses.length→C4 n r a (i:Int)=some (if ((List.range r.buses.length).drop i).all (Hu r a) then Ex.go () else Ex.ret false)
  | 0,i,h,hi=>by omega
  | n+1,i,h,hi=>by
    rw [C4,BB]
    by_cases hx:i<r.buses.length
    · have q1:i<a.holds.length:=by omega
      have q2:i<a.turns.length:=by omega
      have q6:i<(List.range r.buses.length).length:=by simpa using hx
      simp only [hx,decide_true,cond_true,Bf _ _ hx,Bf _ _ q1,Bf _ _ q2,Option.bind_some,Hr,Ok n r hl]
      rw [BA q6,List.all_cons,List.getElem_range]
      have IH:=JJ r a hl hb h1 h2 n (i+1) (by omega) (by omega)
      rw [FK (x:=(((r.legs.length+1) / 2:Nat):Int)-2) (by omega) (by omega),Du i (by omega),IH]
      unfold Hu
      rw [BQ _ _ hx,BQ _ _ q1,BQ _ _ q2]
      by_cases b1:0≤a.holds[i]∧a.holds[i]≤2
      · simp only [b1,and_self,decide_true,Bool.not_true,cond_false,Bool.true_and]
        by_cases b2:a.turns[i]=-1
        · simp [b2]
        · have:(a.turns[i] != -1)=true:=by simpa using b2
          simp only [this,cond_true,b2,decide_false,Bool.false_or]
          by_cases b3:(r.buses[i]).stop≤a.turns[i]∧a.turns[i]≤(((r.legs.length+1) / 2:Nat):Int)-2
          · simp only [b3,and_self,decide_true,Bool.not_true,cond_false,Bool.true_and]
          · simp only [b3,decide_false,Bool.not_false,cond_true,Bool.false_and]
            rfl
      · simp only [b1,decide_false,Bool.not_false,cond_true,Bool.false_and]
        rfl
    · have:i=r.buses.length:=by omega
      have hd:(List.range r.buses.length).drop r.buses.length=[]:=List.drop_eq_nil_of_le (by simp)
      simp [this,hd]
theorem MQ (r:Af) (a:As) (hl:r.legs.length≤20) (hb:r.buses.length≤20) (h1:a.holds.length=r.buses.length) (h2:a.turns.length=r.buses.length):∀ (n i:Nat),r.buses.length<n+i→i≤r.buses.length→B6 n r a (i:Int)=some (if ((List.range r.buses.length).drop i).all (Hu r a) then Ex.go () else Ex.ret 2)
  | 0,i,h,hi=>by omega
  | n+1,i,h,hi=>by
    rw [B6,BB]
    by_cases hx:i<r.buses.length
    · have q1:i<a.holds.length:=by omega
      have q2:i<a.turns.length:=by omega
      have q6:i<(List.range r.buses.length).length:=by simpa using hx
      simp only [hx,decide_true,cond_true,Bf _ _ hx,Bf _ _ q1,Bf _ _ q2,Option.bind_some,Gv,Qg n r _ _ hl]
      rw [BA q6,List.all_cons,List.getElem_range]
      have IH:=MQ r a hl hb h1 h2 n (i+1) (by omega) (by omega)
      rw [Du i (by omega),IH]
      unfold Hu
      rw [BQ _ _ hx,BQ _ _ q1,BQ _ _ q2]
      cases decide (0≤a.holds[i]∧a.holds[i]≤2) with
      | false=>rfl
      | true =>
        simp only [Bool.not_true,cond_false,Bool.true_and]
        cases (decide (a.turns[i]=-1) || decide ((r.buses[i]).stop≤a.turns[i]∧a.turns[i]≤(((r.legs.length+1) / 2:Nat):Int)-2)) with
        | false=>rfl
        | true=>rfl
    · have:i=r.buses.length:=by omega
      have hd:(List.range r.buses.length).drop r.buses.length=[]:=List.drop_eq_nil_of_le (by simp)
      simp [this,hd]
theorem MR (n:Nat) (r:Af) (a:As) (hn:50≤n) (hl:r.legs.length≤20) (hb:r.buses.length≤20):FT n r a=some (D4 r a):=by
  unfold FT D4
  by_cases h1:a.holds.length=r.buses.length
  · by_cases h2:a.turns.length=r.buses.length
    · by_cases h3:a.spares.length=r.spares.length
      · have e1:=JJ r a hl hb h1 h2 n 0 (by omega) (by omega)
        simp only [Int.natCast_zero,List.drop_zero] at e1
        simp only [h1,h2,h3,bne_self_eq_false,cond_false,Option.bind_some,e1,and_self,decide_true,Bool.true_and]
        cases (List.range r.buses.length).all (Hu r a) <;> rfl
      · have:(((a.spares.length:Nat):Int) != ((r.spares.length:Nat):Int))=true:=by simp; omega
        simp only [h1,h2,h3,this,bne_self_eq_false,cond_false,cond_true,Option.bind_some,and_false,decide_false,Bool.false_and]
    · have:(((a.turns.length:Nat):Int) != ((r.buses.length:Nat):Int))=true:=by simp; omega
      simp only [h1,h2,this,bne_self_eq_false,cond_false,cond_true,Option.bind_some,false_and,and_false,decide_false,Bool.false_and]
  · have:(((a.holds.length:Nat):Int) != ((r.buses.length:Nat):Int))=true:=by simp; omega
    simp only [h1,this,cond_true,Option.bind_some,false_and,decide_false,Bool.false_and]
theorem RT (n:Nat) (r:Af) (a:As) (hn:50≤n) (hl:r.legs.length≤20) (hb:r.buses.length≤20) (hs:r.spares.length≤20):Cu n r a=some (if CB r≠0 then CB r else if D4 r a then 0 else 2):=by
  unfold Cu D4
  rw [Qf n r hn hl hb hs]
  by_cases h0 : ¬ (CB r=0)
  · have:(CB r != 0)=true:=by simpa using h0
    simp [this,h0]
  replace h0:=Decidable.not_not.1 h0
  simp only [h0,bne_self_eq_false,cond_false,Option.bind_some,ne_eq,not_true_eq_false,if_false]
  by_cases h1:a.holds.length=r.buses.length
  · by_cases h2:a.turns.length=r.buses.length
    · by_cases h3:a.spares.length=r.spares.length
      · have e1:=MQ r a hl hb h1 h2 n 0 (by omega) (by omega)
        simp only [Int.natCast_zero,List.drop_zero] at e1
        simp only [h1,h2,h3,bne_self_eq_false,cond_false,Option.bind_some,e1,and_self,decide_true,Bool.true_and]
        cases (List.range r.buses.length).all (Hu r a) <;> rfl
      · have:(((a.spares.length:Nat):Int) != ((r.spares.length:Nat):Int))=true:=by simp; omega
        simp only [h1,h2,h3,this,bne_self_eq_false,cond_false,cond_true,Option.bind_some,and_false,decide_false,Bool.false_and]
        rfl
    · have:(((a.turns.length:Nat):Int) != ((r.buses.length:Nat):Int))=true:=by simp; omega
      simp only [h1,h2,this,bne_self_eq_false,cond_false,cond_true,Option.bind_some,false_and,and_false,decide_false,Bool.false_and]
      rfl
  · have:(((a.holds.length:Nat):Int) != ((r.buses.length:Nat):Int))=true:=by simp; omega
    simp only [h1,this,cond_true,Option.bind_some,false_and,decide_false,Bool.false_and]
    rfl
def Cc (m to_:Int) (l:List Rg):Int:=l.foldl (fun e p=>if p.lo>m then min e p.hi else e) to_
def DU (fr to_:Int) (l:List Rg):List Int:=fr::(l.filter fun p=>decide (fr≤p.lo) && decide (p.lo≤to_)).map Rg.lo
def WR (fr to_:Int) (l:List Rg):Int:=(DU fr to_ l).foldl (fun b m=>max b (Cc m to_ l-m)) 0
theorem I4 (m:Int):∀ (l:List Rg)(to_:Int),(∀ p∈l,p.lo≤p.hi)→m≤to_→m≤Cc m to_ l∧Cc m to_ l≤to_
  | [],to_,_,h=>⟨h,Int.le_refl _⟩
  | p::r,to_,hp,h=>by
    have h1:=hp p (by simp)
    show m≤Cc m (if p.lo>m then min to_ p.hi else to_) r∧Cc m (if p.lo>m then min to_ p.hi else to_) r≤to_
    split
    · have:=I4 m r (min to_ p.hi) (fun q hq=>hp q (List.mem_cons_of_mem _ hq)) (by omega)
      omega
    · exact I4 m r to_ (fun q hq=>hp q (List.mem_cons_of_mem _ hq)) h
theorem MS (m:Int):∀ (l:List (Int×Rg))(to_:Int),Ay m to_ l=Cc m to_ (l.map Prod.snd)
  | [],_=>rfl
  | p::r,to_=>MS m r _
theorem LU {α β:Type} {f g:β→α→β}:∀ (l:List α)(b:β),(∀ b x,x∈l→f b x=g b x)→l.foldl f b=l.foldl g b
  | [],_,_=>rfl
  | x::r,b,h=>by
    rw [List.foldl_cons,List.foldl_cons,h b x (by simp)]
    exact LU r _ fun b y hy=>h b y (List.mem_cons_of_mem _ hy)
theorem I5 {fr to_ m:Int} {l:List Rg} (h:fr≤to_) (hm:m∈DU fr to_ l):fr≤m∧m≤to_:=by
  rcases List.mem_cons.1 hm with rfl | hm
  · exact⟨Int.le_refl _,h⟩
  · obtain⟨p,hp,rfl⟩:=List.mem_map.1 hm
    have:=(List.mem_filter.1 hp).2
    simpa using this
theorem O2 (n:Nat) (r:Af) (l:List (Int×Rg)) (hn:60≤n) (hl:l.length≤20) (hp:∀ p∈l.map Prod.snd,p.lo≤p.hi) (h0:0≤r.fr) (h1:r.fr≤r.to_) (h2:r.to_≤2000):BG n r (E5.mk l)=some (WR r.fr r.to_ (l.map Prod.snd)):=by
  unfold BG WR
  rw [if_pos ⟨by simp only; omega,by simp only; omega⟩]
  have hM:Ef r l=DU r.fr r.to_ (l.map Prod.snd):=by
    unfold Ef DU
    rw [List.filter_map,List.map_map]
    rfl
  simp only []
  rw [hM]
  congr 1
  refine LU _ _ fun b m hm=>?_
  have q:=I5 h1 hm
  have:=I4 m (l.map Prod.snd) r.to_ hp q.2
  rw [MS,FK (by omega) (by omega)]
theorem LV (w:AL) (sp:List (List (Int×Rg))) (hs:sp.length≤50) (hl:∀ l∈sp,l.length≤20∧∀ p∈l.map Prod.snd,p.lo≤p.hi) (h0:0≤w.route.fr) (h1:w.route.fr≤w.route.to_) (h2:w.route.to_≤2000):∀ (n i:Nat)(acc:List Int),sp.length+60<n+i→i≤sp.length→acc.length=i →
    Bl n w (sp.map E5.mk) acc (i:Int)=some (acc++(sp.drop i).map fun l=>WR w.route.fr w.route.to_ (l.map Prod.snd))
  | 0,i,acc,h,hi,_=>by omega
  | n+1,i,acc,h,hi,ha=>by
    rw [Bl,BB,List.length_map]
    by_cases hx:i<sp.length
    · simp only [hx,decide_true,cond_true]
      rw [Bf _ i (by simpa using hx)]
      simp only [Option.bind_some,List.getElem_map]
      have:=hl _ (List.getElem_mem hx)
      rw [O2 n w.route _ (by omega) this.1 this.2 h0 h1 h2]
      simp only [Option.bind_some]
      rw [DI _ _ (by simp; omega)]
      simp only [Option.bind_some]
      rw [Du i (by omega),LV w sp hs hl h0 h1 h2 n (i+1) _ (by omega) (by omega) (by simp; omega),BA hx,List.append_assoc]
      rfl
    · have:i=sp.length:=by omega
      simp [this]
end Go.Proofs.Ytokchpjijlebiaa
namespace Go.Proofs.Ytokchpjijlebiaa
open Go Go.RowKit
structure EI (r:Af) (a:As):Prop where
  holds:a.holds.length=r.buses.length
  turns:a.turns.length=r.buses.length
  spares:a.spares.length=r.spares.length
  hold:∀ i,i<r.buses.length→0≤a.holds[i]!∧a.holds[i]!≤2
  turn:∀ i,i<r.buses.length→a.turns[i]! = -1∨(r.buses[i]!).stop≤a.turns[i]!∧a.turns[i]!≤(((r.legs.length+1) / 2:Nat):Int)-2
theorem Gw {r:Af} {a:As} (h:D4 r a=true):EI r a:=by
  simp only [D4,Bool.and_eq_true,decide_eq_true_eq,List.all_eq_true,List.mem_range] at h
  obtain⟨⟨h1,h2,h3⟩,h4⟩:=h
  refine⟨h1,h2,h3,fun i hi=>?_,fun i hi=>?_⟩ <;>
  · have:=h4 i hi
    simp only [Hu,Bool.and_eq_true,Bool.or_eq_true,decide_eq_true_eq] at this
    first | exact this.1 | exact this.2
structure Ec (f:Rg→Int):Prop where
  le:∀ x:Rg,x.lo≤x.hi→x.lo≤f x∧f x≤x.hi
theorem Ec.low:Ec Rg.lo:=⟨fun _ h=>⟨Int.le_refl _,h⟩⟩
theorem Ec.high:Ec Rg.hi:=⟨fun _ h=>⟨h,Int.le_refl _⟩⟩
def DR (r:Af) (a:As) (f:Rg→Int) (i:Nat):AX×Ax:=(⟨(r.buses[i]!).stop,f (r.buses[i]!).tm+a.holds[i]! * r.unit,a.turns[i]!⟩,⟨r.legs.map f,f r.turn⟩)
def I6 (r:Af) (f:Rg→Int) (j:Nat):AX×Ax:=(⟨(r.spares[j]!).stop,(r.spares[j]!).tm,-1⟩,⟨r.legs.map f,0⟩)
theorem Hv {α β:Type} [Inhabited α] [Inhabited β] (g:α→β) (l:List α) (i:Nat) (h:i<l.length):(l.map g)[i]! = g l[i]!:=by
  rw [BQ _ _ (by simpa using h),BQ _ _ h,List.getElem_map]
theorem Qh {β:Type} [Inhabited β] (x:β) (n i:Nat) (h:i<n):(List.replicate n x)[i]! = x:=by
  rw [BQ _ _ (by simpa using h),List.getElem_replicate]
theorem Dy {α β:Type} {f g:α→Option β}:∀ {l:List α},(∀ x∈l,f x=g x)→l.filterMap f=l.filterMap g
  | [],_=>rfl
  | x::r,h=>by
    rw [List.filterMap_cons,List.filterMap_cons,h x (by simp),Dy fun y hy=>h y (List.mem_cons_of_mem _ hy)]
theorem F3 (r:Af) (a:As) (f:Rg→Int):CA r a (Dw r f)=(List.range r.buses.length).map (DR r a f)++(List.range r.spares.length).filterMap fun j=>if a.spares[j]! then some (I6 r f j) else none:=by
  unfold CA
  congr 1
  · refine List.map_congr_left fun i hi=>?_
    rw [List.mem_range] at hi
    unfold C1 DR Dw
    simp only []
    rw [Hv _ _ _ hi,Hv _ _ _ hi,Qh _ _ _ (by omega)]
  · refine Dy fun j hj=>?_
    rw [List.mem_range] at hj
    unfold Hd I6 Dw
    simp only []
    rw [Qh _ _ _ (by omega)]
theorem MT {r:Af} {a:As} {f:Rg→Int} (hf:Ec f) (V:Cf r) (A:EI r a):O0 r a (Dw r f):=by
  refine⟨by have:=V.nb; omega,by have:=V.ns; omega,A.holds,A.turns,A.spares,by simp [Dw],by simp [Dw],by simp [Dw],fun x hx=>?_,V.unit,fun x hx=>?_⟩
  · obtain⟨i,hi,rfl⟩:=List.mem_iff_getElem.1 hx
    have:=A.hold i (by rw [← A.holds]; exact hi)
    rwa [BQ _ _ hi] at this
  · simp only [Dw] at hx
    obtain⟨b,hb,rfl⟩:=List.mem_map.1 hx
    have:=V.buses b hb
    have:=hf.le b.tm (by omega)
    omega
theorem MU {r:Af} {f:Rg→Int} (hf:Ec f) (V:Cf r):(∀ d∈r.legs.map f,0≤d∧d≤300)∧0≤f r.turn∧f r.turn≤300:=by
  refine⟨fun d hd=>?_,?_⟩
  · obtain⟨x,hx,rfl⟩:=List.mem_map.1 hd
    have:=V.legs x hx
    have:=hf.le x (by omega)
    omega
  · have:=V.turn
    have:=hf.le r.turn (by omega)
    omega
theorem K3 {r:Af} {a:As} {f:Rg→Int} (hf:Ec f) (V:Cf r) (A:EI r a) (i:Nat) (hi:i<r.buses.length):F2 r (DR r a f i):=by
  have hb:=V.buses _ (List.getElem_mem hi)
  have h1:=A.hold i hi
  have h2:=A.turn i hi
  have h3:=Lv h1.1 h1.2 V.unit.1 V.unit.2
  obtain⟨s1,s2,s3⟩:=MU hf V
  have:=V.nl
  rw [BQ _ _ hi] at h2
  have h4:=hf.le (r.buses[i]).tm (by omega)
  refine⟨⟨s2,s3,by simp [DR]; omega,s1⟩,by simp [DR],?_,?_,?_,?_,?_⟩ <;> simp only [DR,BQ _ _ hi] <;> omega
theorem MV {r:Af} {f:Rg→Int} (hf:Ec f) (V:Cf r) (j:Nat) (hj:j<r.spares.length):F2 r (I6 r f j):=by
  have hb:=V.spares _ (List.getElem_mem hj)
  obtain⟨s1,_,_⟩:=MU hf V
  have:=V.nl
  refine⟨⟨Int.le_refl _,by simp [I6],by simp [I6]; omega,s1⟩,by simp [I6],?_,?_,?_,?_,?_⟩ <;> simp only [I6,BQ _ _ hj] <;> omega
theorem K4 {r:Af} {a:As} {f:Rg→Int} (hf:Ec f) (V:Cf r) (A:EI r a):∀ p∈CA r a (Dw r f),F2 r p:=by
  rw [F3]
  intro p hp
  rcases List.mem_append.1 hp with hp | hp
  · obtain⟨i,hi,rfl⟩:=List.mem_map.1 hp
    exact K3 hf V A i (by simpa using hi)
  · obtain⟨j,hj,h⟩:=List.mem_filterMap.1 hp
    split at h
    · cases h; exact MV hf V j (by simpa using hj)
    · cases h
def Fb (r:Af) (a:As):List ((AX×Ax)×(AX×Ax)):=(List.range r.buses.length).map (fun i=>(DR r a Rg.lo i,DR r a Rg.hi i))++(List.range r.spares.length).filterMap fun j=>if a.spares[j]! then some (I6 r Rg.lo j,I6 r Rg.hi j) else none
theorem Hf {α β γ:Type} (c:α→Bool) (f:α→β) (g:α→γ):∀ l:List α,(l.filterMap fun j=>if c j then some (f j) else none).zip (l.filterMap fun j=>if c j then some (g j) else none)=l.filterMap fun j=>if c j then some (f j,g j) else none
  | []=>rfl
  | x::r=>by
    simp only [List.filterMap_cons]
    cases c x with
    | true=>simp only [if_true,List.zip_cons_cons,Hf c f g r]
    | false=>simp only [Bool.false_eq_true,if_false,Hf c f g r]
theorem Hg {α β γ:Type} (c:α→Bool) (f:α→β) (g:α→γ):∀ l:List α,(l.filterMap fun j=>if c j then some (f j) else none).length=(l.filterMap fun j=>if c j then some (g j) else none).length
  | []=>rfl
  | x::r=>by
    simp only [List.filterMap_cons]
    cases c x with
    | true=>simp only [if_true,List.length_cons,Hg c f g r]
    | false=>simp only [Bool.false_eq_true,if_false,Hg c f g r]
theorem Jy (r:Af) (a:As):(CA r a (Dw r Rg.lo)).zip (CA r a (Dw r Rg.hi))=Fb r a:=by
  rw [F3,F3,List.zip_append (by simp),Fb,Hf,List.zip_map']
theorem S3 (r:Af) (a:As):(CA r a (Dw r Rg.lo)).length=(CA r a (Dw r Rg.hi)).length:=by
  rw [F3,F3,List.length_append,List.length_append,Hg _ (I6 r Rg.lo) (I6 r Rg.hi)]
  simp
theorem Gt (r:Af) (a:As) (f:Rg→Int):(CA r a (Dw r f)).length≤r.buses.length+r.spares.length:=by
  rw [F3,List.length_append,List.length_map,List.length_range]
  have:=List.length_filterMap_le (fun j=>if a.spares[j]! then some (I6 r f j) else none) (List.range r.spares.length)
  rw [List.length_range] at this
  omega
theorem G1 {st turned turn:Int} {legs:List Int} (ht:2*turned+1<st):∀ (n m:Nat)(tm s:Int),st-s<n→st-s<m→Bw st turned turn legs n tm s=Bw st turned turn legs m tm s
  | 0,m,tm,s,h1,h2=>by
    cases m with
    | zero=>rfl
    | succ m=>rw [Bw,Bw,if_neg (by omega)]
  | n+1,0,tm,s,h1,h2=>by rw [Bw,Bw,if_neg (by omega)]
  | n+1,m+1,tm,s,h1,h2=>by
    rw [Bw,Bw]
    by_cases hc:0≤s∧s<st
    · simp only [hc,and_self,if_true]
      congr 1
      by_cases hs:s=turned
      · simp only [hs,if_true]
        exact G1 ht n m _ _ (by omega) (by omega)
      · simp only [hs,if_false]
        cases legs[s.toNat]? with
        | none=>rfl
        | some d=>exact G1 ht n m _ _ (by omega) (by omega)
    · simp only [hc,if_false]
theorem Qi {r:Af} {p:(AX×Ax)×(AX×Ax)} (hl:r.legs.length≤20) (h1:F2 r p.1) (h2:F2 r p.2) {n:Nat} (hn:30≤n) (k:Int):Dx ((r.legs.length:Int)+1) n p k=Dx ((r.legs.length:Int)+1) 40 p k:=by
  have a1:=h1.s0
  have a2:=h2.s0
  unfold Dx
  rw [G1 h1.t n 40 _ _ (by omega) (by omega),G1 h2.t n 40 _ _ (by omega) (by omega)]
theorem O3 {r:Af} {a:As} (V:Cf r) {p:(AX×Ax)×(AX×Ax)} (hp:p∈Fb r a) (n:Nat) (k:Int) (A:EI r a) :
    (BH (Bw ((r.legs.length:Int)+1) p.1.1.turned p.1.2.turn p.1.2.legs n p.1.1.tm p.1.1.stop) k=none∧BH (Bw ((r.legs.length:Int)+1) p.2.1.turned p.2.2.turn p.2.2.legs n p.2.1.tm p.2.1.stop) k=none) ∨
    ∃ x y,BH (Bw ((r.legs.length:Int)+1) p.1.1.turned p.1.2.turn p.1.2.legs n p.1.1.tm p.1.1.stop) k=some x∧BH (Bw ((r.legs.length:Int)+1) p.2.1.turned p.2.2.turn p.2.2.legs n p.2.1.tm p.2.1.stop) k=some y∧x≤y:=by
  have hle:∀ (k:Nat)(d d':Int),(r.legs.map Rg.lo)[k]? = some d→(r.legs.map Rg.hi)[k]? = some d'→d≤d':=fun k d d' h1 h2=>by
    rw [List.getElem?_map] at h1 h2
    obtain⟨x,hx,rfl⟩:=Option.map_eq_some_iff.1 h1
    rw [hx] at h2
    cases h2
    have:=V.legs x (List.mem_of_getElem? hx)
    omega
  unfold Fb at hp
  rcases List.mem_append.1 hp with hp | hp
  · obtain⟨i,hi,rfl⟩:=List.mem_map.1 hp
    have hi:i<r.buses.length:=by simpa using hi
    have ok:=K3 Ec.low V A i hi
    have hb:=V.buses _ (List.getElem_mem hi)
    have:=V.turn
    exact Hq (turn:=r.turn.lo) (turn':=r.turn.hi) ok.t (by simp) hle (by omega) n _ _ _ k (by simp only [DR,BQ _ _ hi]; omega)
  · obtain⟨j,hj,h⟩:=List.mem_filterMap.1 hp
    split at h
    · cases h
      have ok:=MV Ec.low V j (by simpa using hj)
      exact Hq ok.t (by simp) hle (Int.le_refl _) n _ _ _ k (Int.le_refl _)
    · cases h
def CN (r:Af) (a:As) (k:Nat):List Rg:=(Fb r a).filterMap fun p=>Dx ((r.legs.length:Int)+1) 40 p k
theorem CL (st:Int) (n:Nat) (k:Int):∀ (i:Nat)(l:List ((AX×Ax)×(AX×Ax))),(Co st n k i l).map Prod.snd=l.filterMap fun p=>Dx st n p k
  | _,[]=>rfl
  | i,p::r=>by
    rw [Co,List.filterMap_cons]
    cases Dx st n p k with
    | none=>exact CL st n k (i+1) r
    | some x=>simp only [List.map_cons,CL st n k (i+1) r]
theorem O4 {r:Af} {a:As} (V:Cf r) (A:EI r a) (k:Nat):∀ x∈CN r a k,x.lo≤x.hi:=fun x hx=>by
  obtain⟨p,hp,h⟩:=List.mem_filterMap.1 hx
  unfold Dx at h
  rcases O3 V hp 40 k A with⟨h1,h2⟩ | ⟨u,v,h1,h2,h3⟩
  · rw [h1,h2] at h; cases h
  · rw [h1,h2] at h; cases h; exact h3
theorem K5 {α:Type}:∀ l:List α,List.mapM id (l.map some)=some l
  | []=>rfl
  | x::r=>by rw [List.map_cons,List.mapM_cons,K5 r]; rfl
theorem LW (st:Nat) (x18:List (Option (List (Int×Rg)))) (h18:x18.length=st) (hb:st≤50):∀ (n i:Nat)(x:List (Option (List (Int×Rg)))),st<n+i→i≤st→x.length=st→(∀ k,k<i→x[k]? = some (some []))→Bj n x18 x (i:Int)=some (List.replicate st (some []))
  | 0,i,x,h,hi,_,_=>by omega
  | n+1,i,x,h,hi,hx,hk=>by
    rw [Bj,BB,h18]
    by_cases hi':i<st
    · simp only [hi',decide_true,cond_true]
      rw [Bf _ i (by omega)]
      simp only [Option.bind_some]
      rw [Oj _ i _ (by omega)]
      simp only [Option.bind_some]
      rw [Du i (by omega),LW st x18 h18 hb n (i+1) _ (by omega) (by omega) (by simpa using hx) fun k hk'=>?_]
      rw [List.getElem?_set]
      by_cases hik:i=k
      · subst hik; simp; omega
      · simp only [hik,if_false]; exact hk k (by omega)
    · simp only [hi',decide_false,cond_false,Option.some.injEq]
      apply List.ext_getElem?
      intro k
      by_cases hks:k<st
      · rw [hk k (by omega),List.getElem?_replicate]; simp [hks]
      · rw [List.getElem?_eq_none (by omega),List.getElem?_eq_none (by simp; omega)]
theorem Qj (n:Nat) (r:Af) (a:As) (V:Cf r) (A:EI r a) (hn:80≤n) (hn2:n≤900):BX n ⟨r,a⟩=some ((List.range (r.legs.length+1)).map fun(k:Nat)=>E5.mk (Co ((r.legs.length:Int)+1) 40 k 0 (Fb r a))):=by
  have:=V.nl
  have:=V.nb
  have:=V.ns
  unfold BX
  simp only []
  rw [Dv n r (by omega),Option.bind_some]
  have eM:mk ((r.legs.length:Int)+1) (none:Option (List (Int×Rg)))=some (List.replicate (r.legs.length+1) none):=by
    rw [show((r.legs.length:Int)+1)=((r.legs.length+1:Nat):Int) by omega]; exact Vn _ _ (by omega)
  rw [eM,Option.bind_some]
  have e0:=LW (r.legs.length+1) (List.replicate (r.legs.length+1) (none:Option (List (Int×Rg)))) (by simp) (by omega) n 0 (List.replicate (r.legs.length+1) none) (by omega) (by omega) (by simp) (fun k hk=>by omega)
  simp only [Int.natCast_zero] at e0
  rw [e0,RR n r Rg.lo (fun y0=>Ch n y0) (fun x=>rfl) (by omega) (by omega) (by omega) (by omega),RR n r Rg.hi (fun y0=>BT n y0) (fun x=>rfl) (by omega) (by omega) (by omega) (by omega),Option.bind_some,Option.bind_some]
  rw [MO n r a _ (MT Ec.low V A) (by omega),Option.bind_some,Option.bind_some,MO n r a _ (MT Ec.high V A) (by omega),Option.bind_some]
  have e2:=LP ⟨r,a⟩ (CA r a (Dw r Rg.lo)) (CA r a (Dw r Rg.hi)) (by simp only; omega) (S3 r a) (K4 Ec.low V A) (K4 Ec.high V A) 60 (by omega) (by omega) (by have:=Gt r a Rg.lo; omega)
    (fun m hm1 hm2 p hp=>by
      have hz:=hp
      rw [Jy] at hz
      have hp1:p.1∈CA r a (Dw r Rg.lo):=(List.of_mem_zip (show(p.1,p.2)∈_ from hp)).1
      have hp2:p.2∈CA r a (Dw r Rg.hi):=(List.of_mem_zip (show(p.1,p.2)∈_ from hp)).2
      refine⟨fun k=>?_,fun k=>Qi (by omega) (K4 Ec.low V A _ hp1) (K4 Ec.high V A _ hp2) hm1 k⟩
      rcases O3 V hz m k A with⟨h1,h2⟩ | ⟨x,y,h1,h2,_⟩
      · simp only; rw [h1,h2]
      · simp only; rw [h1,h2]; simp) n 0 (List.replicate (r.legs.length+1) []) (by have:=Gt r a Rg.lo; omega) (by omega) (by omega) (by simp) (fun m hm p hp=>by
        rw [(List.mem_replicate.1 hm).2] at hp; cases hp)
  simp only [Int.natCast_zero,List.map_replicate,List.drop_zero] at e2
  rw [e2,Option.bind_some,K5,Option.bind_some,List.map_map,Option.some.injEq]
  refine List.map_congr_left fun k hk=>?_
  rw [List.mem_range] at hk
  simp only [Function.comp,Jy,List.getElem?_replicate,hk,if_true,Option.getD_some,List.nil_append]
def BV (r:Af) (a:As):List Int:=(List.range (r.legs.length+1)).map fun k=>WR r.fr r.to_ (CN r a k)
theorem ST (n:Nat) (r:Af) (a:As) (V:Cf r) (A:EI r a) (hn:100≤n) (hn2:n≤900):BY n ⟨r,a⟩=some (BV r a):=by
  have:=V.nl
  have:=V.nb
  have:=V.ns
  have:=V.looked
  unfold BY
  rw [Qj n r a V A (by omega) hn2]
  simp only [Option.bind_some]
  have e:=LV ⟨r,a⟩ ((List.range (r.legs.length+1)).map fun(k:Nat)=>Co ((r.legs.length:Int)+1) 40 k 0 (Fb r a)) (by simp; omega) (fun l hl=>by
    obtain⟨k,_,rfl⟩:=List.mem_map.1 hl
    refine⟨?_,by rw [CL]; exact O4 V A k⟩
    have h1:(Co ((r.legs.length:Int)+1) 40 k 0 (Fb r a)).length=((Co ((r.legs.length:Int)+1) 40 k 0 (Fb r a)).map Prod.snd).length:=by simp
    rw [h1,CL]
    refine Nat.le_trans (List.length_filterMap_le _ _) ?_
    rw [← Jy,List.length_zip]
    have:=Gt r a Rg.lo
    omega) (by simp only; omega) (by simp only; omega) (by simp only; omega) n 0 [] (by simp; omega) (by omega) rfl
  simp only [Int.natCast_zero,List.nil_append,List.drop_zero,List.map_map] at e
  simp only [Function.comp_def] at e
  rw [e]
  simp only [Option.bind_some,BV,CN,CL]
theorem Qk (n:Nat) (r:Af) (a:As) (hF:CB r=0) (hA:D4 r a=true) (hn:100≤n) (hn2:n≤900):Di n r a=some (BV r a,0):=by
  have V:=Ht hF
  have:=V.nl
  have:=V.nb
  have:=V.ns
  unfold Di
  rw [RT n r a (by omega) (by omega) (by omega) (by omega),ST n r a V (Gw hA) hn hn2]
  simp [hF,hA]
end Go.Proofs.Ytokchpjijlebiaa
namespace Go.Proofs.Ytokchpjijlebiaa
open Go Go.RowKit
theorem SU (n:Nat) (r:Af) (a:As) (hn:60≤n):∃ b,Hx n r a=some b∧(b=true→r.legs.length≤10∧r.buses.length≤6∧r.spares.length≤4∧a.holds.length≤8∧a.turns.length≤8∧a.spares.length≤8∧CB r=0∧D4 r a=true):=by
  unfold Hx KB
  by_cases h1 : ¬ (((r.legs.length:Nat):Int)≤10)
  · exact⟨false,by simp only [h1,decide_false,cond_false,Option.bind_some],by simp⟩
  replace h1:=Decidable.not_not.1 h1
  by_cases h2 : ¬ (((r.buses.length:Nat):Int)≤6)
  · exact⟨false,by simp only [h1,h2,decide_true,decide_false,cond_true,cond_false,Option.bind_some],by simp⟩
  replace h2:=Decidable.not_not.1 h2
  by_cases h3 : ¬ (((r.spares.length:Nat):Int)≤4)
  · exact⟨false,by simp only [h1,h2,h3,decide_true,decide_false,cond_true,cond_false,Option.bind_some],by simp⟩
  replace h3:=Decidable.not_not.1 h3
  simp only [h1,h2,h3,decide_true,cond_true,Option.bind_some]
  obtain⟨m,rfl⟩:∃ m,n=m+1:=⟨n-1,by omega⟩
  have e1:Er (m+1) (Av.mk [] [] []) 0=some (Ex.go ()):=rfl
  unfold J2
  rw [e1]
  simp only [Option.bind_some,Ex.bind]
  by_cases q1 : ¬ (((a.holds.length:Nat):Int)≤8)
  · exact⟨false,by simp only [q1,decide_false,cond_false,Option.bind_some],by simp⟩
  replace q1:=Decidable.not_not.1 q1
  by_cases q2 : ¬ (((a.turns.length:Nat):Int)≤8)
  · exact⟨false,by simp only [q1,q2,decide_true,cond_true,decide_false,cond_false,Option.bind_some],by simp⟩
  replace q2:=Decidable.not_not.1 q2
  by_cases q3 : ¬ (((a.spares.length:Nat):Int)≤8)
  · exact⟨false,by simp only [q1,q2,q3,decide_true,cond_true,decide_false,cond_false,Option.bind_some],by simp⟩
  replace q3:=Decidable.not_not.1 q3
  simp only [q1,q2,q3,decide_true,cond_true]
  have z:decide ((((([]:List Int).length):Nat):Int)≤8)=true:=by decide
  have z2:decide ((((([]:List (List Int)).length):Nat):Int)≤8)=true:=by decide
  simp only [z,z2,cond_true,Option.bind_some]
  unfold J3
  rw [K2 (m+1) r (by omega) (by omega) (by omega) (by omega),MR (m+1) r a (by omega) (by omega) (by omega)]
  simp only [Option.bind_some]
  by_cases f0:CB r=0
  · rw [f0]
    simp only [bne_self_eq_false,cond_false]
    cases hb:D4 r a with
    | true=>exact⟨_,rfl,fun _=>⟨by omega,by omega,by omega,by omega,by omega,by omega,by simp,by simp⟩⟩
    | false=>exact⟨_,rfl,fun h=>by simp at h⟩
  · have:(CB r != 0)=true:=by simpa using f0
    simp only [this,cond_true,Option.bind_some]
    exact⟨_,rfl,fun h=>absurd (by simpa using h) f0⟩
end Go.Proofs.Ytokchpjijlebiaa
namespace Go.Proofs.Ytokchpjijlebiaa
open Go Go.RowKit
def AK.put (x:AK) (k:Nat) (v:Int):AK:=match k with
  | 0=>⟨v,x.a1,x.a2,x.a3⟩
  | 1=>⟨x.a0,v,x.a2,x.a3⟩
  | 2=>⟨x.a0,x.a1,v,x.a3⟩
  | _=>⟨x.a0,x.a1,x.a2,v⟩
def AU.put (x:AU) (k:Nat) (v:Bool):AU:=match k with
  | 0=>⟨v,x.a1⟩
  | _=>⟨x.a0,v⟩
theorem AK.setI_put (x:AK) (v:Int):∀ k:Nat,k<4→AK.setI x (k:Int) v=some (x.put k v)
  | 0,_=>rfl
  | 1,_=>rfl
  | 2,_=>rfl
  | 3,_=>rfl
  | k+4,h=>by omega
theorem AU.setI_put (x:AU) (v:Bool):∀ k:Nat,k<2→AU.setI x (k:Int) v=some (x.put k v)
  | 0,_=>rfl
  | 1,_=>rfl
  | k+2,h=>by omega
theorem AK.put_put (x:AK) (u v:Int):∀ k:Nat,k<4→(x.put k u).put k v=x.put k v
  | 0,_=>rfl
  | 1,_=>rfl
  | 2,_=>rfl
  | 3,_=>rfl
  | k+4,h=>by omega
theorem AU.put_put (x:AU) (u v:Bool):∀ k:Nat,k<2→(x.put k u).put k v=x.put k v
  | 0,_=>rfl
  | 1,_=>rfl
  | k+2,h=>by omega
theorem AK.toL_put (x:AK) (v:Int):∀ k:Nat,k<4→(x.put k v).toL=x.toL.set k v
  | 0,_=>rfl
  | 1,_=>rfl
  | 2,_=>rfl
  | 3,_=>rfl
  | k+4,h=>by omega
theorem AU.toL_put (x:AU) (v:Bool):∀ k:Nat,k<2→(x.put k v).toL=x.toL.set k v
  | 0,_=>rfl
  | 1,_=>rfl
  | k+2,h=>by omega
theorem U8 (n k:Nat) (h:k<n):UM n (k:Int)=some ():=by unfold UM; rw [if_pos (by omega)]
def Dz (nb k:Nat) (v:Int) (p:An×Bd):An×Bd :=
  if k<nb then(⟨p.1.holds.put k v,p.1.turns,p.1.spares⟩,⟨p.2.number+min v 1,p.2.sum+v⟩)
  else if k<2*nb then(⟨p.1.holds,p.1.turns.put (k-nb) v,p.1.spares⟩,⟨p.2.number+min (v+1) 1,p.2.sum⟩)
  else(⟨p.1.holds,p.1.turns,p.1.spares.put (k-2*nb) (v == 1)⟩,⟨p.2.number+v,p.2.sum⟩)
def Kb (r:Af) (b:Ce) (t:Int):Bool:=decide (t=-1) || decide (b.stop≤t∧t≤(((r.legs.length+1) / 2:Nat):Int)-2)
def M8 (r:Af) (b:Ce):List Int:=((List.range ((r.legs.length+1) / 2+1)).map fun(i:Nat)=>(i:Int)-1).filter (Kb r b)
def G2 (r:Af) (k:Nat):List Int:=if k<r.buses.length then [0,1,2] else if k<2*r.buses.length then M8 r (r.buses[k-r.buses.length]!) else [0,1]
def HF (r:Af):Nat→Nat→List (List Int)
  | 0,_=>[[]]
  | n+1,k=>(G2 r k).flatMap fun v=>(HF r n (k+1)).map (v::·)
def EZ (nb:Nat):Nat→List Int→An×Bd→An×Bd
  | _,[],p=>p
  | k,v::q,p=>EZ nb (k+1) q (Dz nb k v p)
theorem I7 {α β σ:Type} (f:α→List β) (g:σ→β→Option σ):∀ (l:List α)(s:σ),(l.flatMap f).foldlM g s=l.foldlM (fun s a=>(f a).foldlM g s) s
  | [],s=>rfl
  | a::l,s=>by
    rw [List.flatMap_cons,List.foldlM_append,List.foldlM_cons]
    congr 1
    funext s'
    exact I7 f g l s'
theorem Ql (v:Int):(if 1<v then 1 else v)=min v 1:=by omega
section
variable {σ:Type} (see:σ→An→Bd→Option σ)
def JK (r:Af) (n k:Nat) (d:An) (c:Bd) (s:σ):Option σ:=(HF r n k).foldlM (fun s q=>see s (EZ r.buses.length k q (d,c)).1 (EZ r.buses.length k q (d,c)).2) s
theorem Rp (r:Af) (k:Nat) (d:An) (c:Bd) (s:σ):JK see r 0 k d c s=see s d c:=by
  show(see s d c).bind some=_
  cases see s d c <;> rfl
theorem Rq (r:Af) (n k:Nat) (d:An) (c:Bd) (s:σ):JK see r (n+1) k d c s=(G2 r k).foldlM (fun s v=>JK see r n (k+1) (Dz r.buses.length k v (d,c)).1 (Dz r.buses.length k v (d,c)).2 s) s:=by
  unfold JK
  rw [HF,I7]
  congr 1
  funext s v
  rw [List.foldlM_map]
  rfl
structure G3 (c:Bd) (k:Nat):Prop where
  n0:0≤c.number
  n1:c.number≤k
  s0:0≤c.sum
  s1:c.sum≤2*k
theorem G3.step {nb k:Nat} {v:Int} {p:An×Bd} (h:G3 p.2 k) (h0:k<nb→0≤v∧v≤2) (h1 : ¬ k<nb→k<2*nb→-1≤v) (h2 : ¬ k<2*nb→0≤v∧v≤1):G3 (Dz nb k v p).2 (k+1):=by
  obtain⟨a,b,c,d⟩:=h
  unfold Dz
  by_cases c1:k<nb
  · have:=h0 c1
    simp only [c1,if_true]
    constructor <;> simp only <;> omega
  · by_cases c2:k<2*nb
    · have:=h1 c1 c2
      simp only [c1,c2,if_true,if_false]
      constructor <;> simp only <;> omega
    · have:=h2 c2
      simp only [c1,c2,if_false]
      constructor <;> simp only <;> omega
theorem LX (r:Af) (d:An) (c:Bd) (k B:Nat) (hk:k<r.buses.length) (hb:r.buses.length≤4) (hc:G3 c k) (E:An→Bd→σ→Option σ)
    (hE:∀ m d' c' s',B≤m→G3 c' (k+1)→control_Route_every_1 m see d' c' ((k+1:Nat):Int) ((r.buses.length:Nat):Int) r s' = E d' c' s'):∀ (j:Nat)(n:Nat)(i:Nat)(u:AK)(s:σ),i+j=3→B+j<n→(∀ v,u.put k v=d.holds.put k v) →
    (AS n see d c (k:Int) ((r.buses.length:Nat):Int) r (i:Int) u s).bind (fun o=>some o.2)=(([0,1,2]:List Int).drop i).foldlM (fun s v=>E (Dz r.buses.length k v (d,c)).1 (Dz r.buses.length k v (d,c)).2 s) s
  | 0,0,i,u,s,_,h,_=>by omega
  | 0,n+1,i,u,s,hi,_,_=>by
    obtain rfl:i=3:=by omega
    rw [AS]
    rfl
  | j+1,0,i,u,s,_,h,_=>by omega
  | j+1,n+1,i,u,s,hi,hn,hu=>by
    rw [AS]
    have h3:decide ((i:Int)<3)=true:=decide_eq_true (by omega)
    have hd:([0,1,2]:List Int).drop i=(i:Int)::([0,1,2]:List Int).drop (i+1):=by
      have:i=0∨i=1∨i=2:=by omega
      rcases this with rfl | rfl | rfl <;> rfl
    obtain⟨a1,a2,a3,a4⟩:=id hc
    rw [h3,cond_true,U8 4 k (by omega),Option.bind_some,AK.setI_put _ _ k (by omega),Option.bind_some,hd,List.foldlM_cons]
    rw [FK (x:=c.number+_) (by omega) (by omega),FK (x:=c.sum+_) (by omega) (by omega),Du k (by omega),Du i (by omega),Ql]
    rw [hE n _ _ _ (by omega) (by constructor <;> simp only <;> omega)]
    have e1:Dz r.buses.length k (i:Int) (d,c)=(An.mk (u.put k i) d.turns d.spares,Bd.mk (c.number+min (i:Int) 1) (c.sum+i)):=by
      unfold Dz; rw [if_pos hk,hu]
    rw [e1]
    cases E (An.mk (u.put k i) d.turns d.spares) (Bd.mk (c.number+min (i:Int) 1) (c.sum+i)) s with
    | none=>rfl
    | some s' =>
      exact LX r d c k B hk hb hc E hE j n (i+1) _ s' (by omega) (by omega) fun v=>by rw [AK.put_put _ _ _ k (by omega)]; exact hu v
theorem LY (r:Af) (d:An) (c:Bd) (k B:Nat) (hk : ¬ k<2*r.buses.length) (hk2:k<2*r.buses.length+r.spares.length) (hb:r.buses.length≤4) (hs:r.spares.length≤2) (hc:G3 c k) (E:An→Bd→σ→Option σ)
    (hE:∀ m d' c' s',B≤m→G3 c' (k+1)→control_Route_every_1 m see d' c' ((k+1:Nat):Int) ((r.buses.length:Nat):Int) r s' = E d' c' s'):∀ (j:Nat)(n:Nat)(i:Nat)(u:AU)(s:σ),i+j=2→B+j<n→(∀ v,u.put (k-2*r.buses.length) v=d.spares.put (k-2*r.buses.length) v) →
    (AT n see d c (k:Int) ((r.buses.length:Nat):Int) r (i:Int) u s).bind (fun o=>some o.2)=(([0,1]:List Int).drop i).foldlM (fun s v=>E (Dz r.buses.length k v (d,c)).1 (Dz r.buses.length k v (d,c)).2 s) s
  | 0,0,i,u,s,_,h,_=>by omega
  | 0,n+1,i,u,s,hi,_,_=>by
    obtain rfl:i=2:=by omega
    rw [AT]
    rfl
  | j+1,0,i,u,s,_,h,_=>by omega
  | j+1,n+1,i,u,s,hi,hn,hu=>by
    rw [AT]
    have h3:decide ((i:Int)<2)=true:=decide_eq_true (by omega)
    have hd:([0,1]:List Int).drop i=(i:Int)::([0,1]:List Int).drop (i+1):=by
      have:i=0∨i=1:=by omega
      rcases this with rfl | rfl <;> rfl
    obtain⟨a1,a2,a3,a4⟩:=id hc
    rw [FK (x:=2*_) (by omega) (by omega),FK (x:=(k:Int)-_) (by omega) (by omega),show(k:Int)-2*((r.buses.length:Nat):Int)=((k-2*r.buses.length:Nat):Int) by omega]
    rw [h3,cond_true,U8 2 _ (by omega),Option.bind_some,AU.setI_put _ _ _ (by omega),Option.bind_some,hd,List.foldlM_cons]
    rw [FK (x:=c.number+_) (by omega) (by omega),Du k (by omega),Du i (by omega)]
    rw [hE n _ _ _ (by omega) (by constructor <;> simp only <;> omega)]
    have e1:Dz r.buses.length k (i:Int) (d,c)=(An.mk d.holds d.turns (u.put (k-2*r.buses.length) ((i:Int) == 1)),Bd.mk (c.number+(i:Int)) c.sum):=by
      unfold Dz; rw [if_neg (by omega),if_neg hk,hu]
    rw [e1]
    cases E (An.mk d.holds d.turns (u.put (k-2*r.buses.length) ((i:Int) == 1))) (Bd.mk (c.number+(i:Int)) c.sum) s with
    | none=>rfl
    | some s' =>
      exact LY r d c k B hk hk2 hb hs hc E hE j n (i+1) _ s' (by omega) (by omega) fun v=>by rw [AU.put_put _ _ _ _ (by omega)]; exact hu v
theorem LZ (r:Af) (d:An) (c:Bd) (k B:Nat) (hk : ¬ k<r.buses.length) (hk2:k<2*r.buses.length) (hb:r.buses.length≤4) (hl:r.legs.length≤20) (hc:G3 c k) (E:An→Bd→σ→Option σ)
    (hE:∀ m d' c' s',B≤m→G3 c' (k+1)→control_Route_every_1 m see d' c' ((k+1:Nat):Int) ((r.buses.length:Nat):Int) r s' = E d' c' s'):∀ (j:Nat)(n:Nat)(i:Nat)(u:AK)(s:σ),i+j=(r.legs.length+1) / 2+1→B+j<n→(∀ v,u.put (k-r.buses.length) v=d.turns.put (k-r.buses.length) v) →
    (AB n see d c (k:Int) ((r.buses.length:Nat):Int) r ((i:Int)-1) u s).bind (fun o=>some o.2)=((((List.range ((r.legs.length+1) / 2+1)).drop i).map fun(i:Nat)=>(i:Int)-1).filter (Kb r (r.buses[k-r.buses.length]!))).foldlM (fun s v=>E (Dz r.buses.length k v (d,c)).1 (Dz r.buses.length k v (d,c)).2 s) s
  | 0,0,i,u,s,_,h,_=>by omega
  | 0,n+1,i,u,s,hi,_,_=>by
    have hd:(List.range ((r.legs.length+1) / 2+1)).drop i=[]:=List.drop_eq_nil_of_le (by simp; omega)
    rw [AB,Jx n r hl,Option.bind_some,decide_eq_false (by omega),cond_false,hd]
    rfl
  | j+1,0,i,u,s,_,h,_=>by omega
  | j+1,n+1,i,u,s,hi,hn,hu=>by
    have q6:i<(List.range ((r.legs.length+1) / 2+1)).length:=by simp; omega
    have hkb:k-r.buses.length<r.buses.length:=by omega
    obtain⟨a1,a2,a3,a4⟩:=id hc
    rw [AB,Jx n r hl,Option.bind_some,decide_eq_true (show(i:Int)-1<(((r.legs.length+1) / 2:Nat):Int) by omega),cond_true,BA q6,List.getElem_range]
    rw [FK (x:=(k:Int)-_) (by omega) (by omega),show(k:Int)-((r.buses.length:Nat):Int)=((k-r.buses.length:Nat):Int) by omega,Bf _ _ hkb,Option.bind_some,Qg n r _ _ hl,Option.bind_some,BQ _ _ hkb]
    rw [List.map_cons,List.filter_cons]
    rw [FK (x:=(i:Int)-1+1) (by omega) (by omega),show(i:Int)-1+1=(i:Int) by omega,show(i:Int)=((i+1:Nat):Int)-1 by omega]
    have hok:Kb r r.buses[k-r.buses.length] (((i+1:Nat):Int)-1-1)=(decide (((i+1:Nat):Int)-1-1=-1) || decide ((r.buses[k-r.buses.length]).stop≤((i+1:Nat):Int)-1-1∧((i+1:Nat):Int)-1-1≤(((r.legs.length+1) / 2:Nat):Int)-2)):=rfl
    have IH:=LZ r d c k B hk hk2 hb hl hc E hE j n (i+1)
    rw [BQ _ _ hkb] at IH
    rw [← hok]
    cases hcase:Kb r r.buses[k-r.buses.length] (((i+1:Nat):Int)-1-1) with
    | false =>
      simp only [cond_false,Bool.false_eq_true,if_false]
      exact IH u s (by omega) (by omega) hu
    | true =>
      simp only [cond_true,if_true]
      rw [U8 4 _ (by omega),Option.bind_some,AK.setI_put _ _ _ (by omega),Option.bind_some,List.foldlM_cons,Ql]
      rw [FK (x:=c.number+_) (by omega) (by omega),Du k (by omega)]
      rw [hE n _ _ _ (by omega) (by constructor <;> simp only <;> omega)]
      have e1:Dz r.buses.length k (((i+1:Nat):Int)-1-1) (d,c)=(An.mk d.holds (u.put (k-r.buses.length) (((i+1:Nat):Int)-1-1)) d.spares,Bd.mk (c.number+min (((i+1:Nat):Int)-1) 1) c.sum):=by
        unfold Dz; rw [if_neg hk,if_pos hk2,hu,show((i+1:Nat):Int)-1-1+1=((i+1:Nat):Int)-1 by omega]
      rw [e1]
      cases E (An.mk d.holds (u.put (k-r.buses.length) (((i+1:Nat):Int)-1-1)) d.spares) (Bd.mk (c.number+min (((i+1:Nat):Int)-1) 1) c.sum) s with
      | none=>rfl
      | some s'=>exact IH _ s' (by omega) (by omega) fun v=>by rw [AK.put_put _ _ _ _ (by omega)]; exact hu v
theorem MW (r:Af) (hb:r.buses.length≤4) (hs:r.spares.length≤2) (hl:r.legs.length≤7):∀ (j n k:Nat)(d:An)(c:Bd)(s:σ),k+j=2*r.buses.length+r.spares.length→10*j<n→G3 c k →
    control_Route_every_1 n see d c (k:Int) ((r.buses.length:Nat):Int) r s=JK see r j k d c s
  | j,0,k,d,c,s,_,h,_=>by omega
  | 0,n+1,k,d,c,s,hk,hn,hc=>by
    rw [control_Route_every_1,FK (x:=2*_) (by omega) (by omega),FK (by omega) (by omega),decide_eq_false (by omega),decide_eq_false (by omega),decide_eq_false (by omega),Rp]
    simp only [cond_false]
    cases see s d c <;> rfl
  | j+1,n+1,k,d,c,s,hk,hn,hc=>by
    have IH:∀ m d' c' s',10*j+1≤m→G3 c' (k+1)→control_Route_every_1 m see d' c' ((k+1:Nat):Int) ((r.buses.length:Nat):Int) r s' = JK see r j (k+1) d' c' s':=fun m d' c' s' hm hc'=>MW r hb hs hl j m (k+1) d' c' s' (by omega) (by omega) hc'
    rw [control_Route_every_1,FK (x:=2*_) (by omega) (by omega),FK (by omega) (by omega),Rq]
    by_cases c1:k<r.buses.length
    · rw [decide_eq_true (by omega),cond_true]
      have e:=LX see r d c k (10*j+1) c1 hb hc (fun d c s=>JK see r j (k+1) d c s) IH 3 n 0 d.holds s rfl (by omega) (fun _=>rfl)
      rw [Int.natCast_zero,List.drop_zero] at e
      rw [e]
      unfold G2
      rw [if_pos c1]
    · rw [decide_eq_false (by omega),cond_false]
      by_cases c2:k<2*r.buses.length
      · rw [decide_eq_true (by omega),cond_true]
        have e:=LZ see r d c k (10*j+1) c1 c2 hb (by omega) hc (fun d c s=>JK see r j (k+1) d c s) IH ((r.legs.length+1) / 2+1) n 0 d.turns s (by omega) (by omega) (fun _=>rfl)
        rw [Int.natCast_zero,List.drop_zero,show(0:Int)-1=-1 from rfl] at e
        rw [e]
        unfold G2
        rw [if_neg c1,if_pos c2]
        rfl
      · rw [decide_eq_false (by omega),cond_false,decide_eq_true (by omega),cond_true]
        have e:=LY see r d c k (10*j+1) c2 (by omega) hb hs hc (fun d c s=>JK see r j (k+1) d c s) IH 2 n 0 d.spares s rfl (by omega) (fun _=>rfl)
        rw [Int.natCast_zero,List.drop_zero] at e
        rw [e]
        unfold G2
        rw [if_neg c1,if_neg c2]
def Dc (r:Af):List (List Int):=HF r (2*r.buses.length+r.spares.length) 0
def SM:An×Bd:=(An.mk (AK.mk 0 0 0 0) (AK.mk 0 0 0 0) (AU.mk false false),Bd.mk 0 0)
def G4 (r:Af) (q:List Int):An×Bd:=EZ r.buses.length 0 q SM
theorem SW (n:Nat) (r:Af) (s:σ) (hb:r.buses.length≤4) (hs:r.spares.length≤2) (hl:r.legs.length≤7) (hn:101≤n):BM n see r s=(Dc r).foldlM (fun s q=>see s (G4 r q).1 (G4 r q).2) s:=by
  unfold BM
  have e:=MW see r hb hs hl (2*r.buses.length+r.spares.length) n 0 SM.1 SM.2 s (by omega) (by omega) ⟨Int.le_refl _,Int.le_refl _,Int.le_refl _,Int.le_refl _⟩
  rw [Int.natCast_zero] at e
  show(control_Route_every_1 n see SM.1 SM.2 0 _ r s).bind _=_
  rw [e]
  show Option.bind _ some=_
  cases hR:JK see r (2*r.buses.length+r.spares.length) 0 SM.1 SM.2 s <;> exact hR.symm
end
end Go.Proofs.Ytokchpjijlebiaa
namespace Go.Proofs.Ytokchpjijlebiaa
open Go Go.RowKit
def Ri (b:Bool):Int:=if b then 1 else 0
def enc (a:As):List Int:=a.holds++a.turns++a.spares.map Ri
def E3 (r:Af) (q:List Int):As:=⟨q.take r.buses.length,(q.drop r.buses.length).take r.buses.length,(q.drop (2*r.buses.length)).map fun v=>v == 1⟩
def HG (a:As):Int:=(a.holds.map fun h=>min h 1).sum+(a.turns.map fun t=>min (t+1) 1).sum+(a.spares.map Ri).sum
def I8 (a:As):Int:=a.holds.sum
def M5:List Int→List Int→Bool
  | x::xs,y::ys=>if x=y then M5 xs ys else decide (x<y)
  | _,_=>false
def CT (a b:As):Bool:=if HG a=HG b then(if I8 a=I8 b then M5 (enc a) (enc b) else decide (I8 a<I8 b)) else decide (HG a<HG b)
theorem HH:∀ x:List Int,M5 x x=false
  | []=>rfl
  | x::xs=>by rw [M5,if_pos rfl,HH xs]
theorem O5:∀ {x y:List Int},M5 x y=true→M5 y x=false
  | [],y,h=>by simp [M5] at h
  | x::xs,[],h=>by simp [M5] at h
  | x::xs,y::ys,h=>by
    rw [M5] at h ⊢
    by_cases e:x=y
    · subst e
      rw [if_pos rfl] at h ⊢
      exact O5 h
    · rw [if_neg e] at h
      rw [if_neg (Ne.symm e)]
      have:=of_decide_eq_true h
      exact decide_eq_false (by omega)
theorem SX:∀ {x y:List Int},x.length=y.length→M5 x y=false→M5 y x=false→x=y
  | [],[],_,_,_=>rfl
  | [],y::ys,h,_,_=>by simp at h
  | x::xs,[],h,_,_=>by simp at h
  | x::xs,y::ys,h,h1,h2=>by
    rw [M5] at h1 h2
    by_cases e:x=y
    · subst e
      rw [if_pos rfl] at h1 h2
      rw [SX (by simpa using h) h1 h2]
    · rw [if_neg e] at h1
      rw [if_neg (Ne.symm e)] at h2
      have:=of_decide_eq_false h1
      have:=of_decide_eq_false h2
      omega
theorem Rr {a b:As} (h:(enc a).length=(enc b).length) (h1:CT a b=false) (h2:CT b a=false):enc a=enc b:=by
  unfold CT at h1 h2
  by_cases e:HG a=HG b
  · rw [if_pos e] at h1; rw [if_pos e.symm] at h2
    by_cases e2:I8 a=I8 b
    · rw [if_pos e2] at h1; rw [if_pos e2.symm] at h2
      exact SX h h1 h2
    · rw [if_neg e2] at h1; rw [if_neg (Ne.symm e2)] at h2
      have:=of_decide_eq_false h1
      have:=of_decide_eq_false h2
      omega
  · rw [if_neg e] at h1; rw [if_neg (Ne.symm e)] at h2
    have:=of_decide_eq_false h1
    have:=of_decide_eq_false h2
    omega
def I9 (nb:Nat):Nat→List Int→Int
  | _,[]=>0
  | k,v::q=>(if k<nb then min v 1 else if k<2*nb then min (v+1) 1 else v)+I9 nb (k+1) q
def IA (nb:Nat):Nat→List Int→Int
  | _,[]=>0
  | k,v::q=>(if k<nb then v else 0)+IA nb (k+1) q
theorem O6 (nb:Nat):∀ (q:List Int)(k:Nat)(p:An×Bd),(EZ nb k q p).2=⟨p.2.number+I9 nb k q,p.2.sum+IA nb k q⟩
  | [],k,p=>by simp [EZ,I9,IA]
  | v::q,k,p=>by
    rw [EZ,O6 nb q (k+1),I9,IA]
    unfold Dz
    by_cases c1:k<nb
    · simp only [c1,if_true,Int.add_assoc]
    · by_cases c2:k<2*nb
      · simp only [c1,c2,if_true,if_false,Int.add_assoc,Int.zero_add]
      · simp only [c1,c2,if_false,Int.add_assoc,Int.zero_add]
theorem IB (nb:Nat):∀ (x y:List Int)(k:Nat),I9 nb k (x++y)=I9 nb k x+I9 nb (k+x.length) y
  | [],y,k=>by simp [I9]
  | v::x,y,k=>by
    rw [List.cons_append,I9,IB nb x y (k+1),I9,Int.add_assoc,List.length_cons,show k+1+x.length=k+(x.length+1) by omega]
theorem IC (nb:Nat):∀ (x y:List Int)(k:Nat),IA nb k (x++y)=IA nb k x+IA nb (k+x.length) y
  | [],y,k=>by simp [IA]
  | v::x,y,k=>by
    rw [List.cons_append,IA,IC nb x y (k+1),IA,Int.add_assoc,List.length_cons,show k+1+x.length=k+(x.length+1) by omega]
theorem MX (nb:Nat):∀ (x:List Int)(k:Nat),k+x.length≤nb→I9 nb k x=(x.map fun h=>min h 1).sum∧IA nb k x=x.sum
  | [],_,_=>⟨rfl,rfl⟩
  | v::x,k,h=>by
    rw [List.length_cons] at h
    have IH:=MX nb x (k+1) (by omega)
    rw [I9,IA,IH.1,IH.2,if_pos (by omega),if_pos (by omega),List.map_cons,List.sum_cons,List.sum_cons]
    exact⟨rfl,rfl⟩
theorem MY (nb:Nat):∀ (x:List Int)(k:Nat),nb≤k→k+x.length≤2*nb→I9 nb k x=(x.map fun t=>min (t+1) 1).sum∧IA nb k x=0
  | [],_,_,_=>⟨rfl,rfl⟩
  | v::x,k,h0,h=>by
    rw [List.length_cons] at h
    have IH:=MY nb x (k+1) (by omega) (by omega)
    rw [I9,IA,IH.1,IH.2,if_neg (by omega),if_pos (by omega),if_neg (by omega),List.map_cons,List.sum_cons]
    exact⟨rfl,rfl⟩
theorem Ma (nb:Nat):∀ (x:List Int)(k:Nat),2*nb≤k→I9 nb k x=x.sum∧IA nb k x=0
  | [],_,_=>⟨rfl,rfl⟩
  | v::x,k,h0=>by
    have IH:=Ma nb x (k+1) (by omega)
    rw [I9,IA,IH.1,IH.2,if_neg (by omega),if_neg (by omega),if_neg (by omega),List.sum_cons]
    exact⟨rfl,rfl⟩
theorem ID (nb:Nat):∀ (x y:List Int)(k:Nat)(p:An×Bd),EZ nb k (x++y) p=EZ nb (k+x.length) y (EZ nb k x p)
  | [],y,k,p=>rfl
  | v::x,y,k,p=>by
    rw [List.cons_append,EZ,ID nb x y (k+1),EZ,List.length_cons,show k+1+x.length=k+(x.length+1) by omega]
theorem Ly {α:Type} (l x:List α) (v:α) (k:Nat) (h:k+(x.length+1)≤l.length):(l.set k v).take (k+1)++x++(l.set k v).drop (k+1+x.length)=l.take k++v::x++l.drop (k+(x.length+1)):=by
  have hk:k<l.length:=by omega
  have h1:(l.set k v).take (k+1)=l.take k++[v]:=by
    rw [List.take_succ,List.getElem?_set_self hk,List.take_set_of_le (Nat.le_refl k)]; rfl
  rw [h1,List.drop_set_of_lt (by omega),show k+1+x.length=k+(x.length+1) by omega]
  simp
theorem MZ (nb:Nat) (hnb:nb≤4):∀ (x:List Int)(k:Nat)(p:An×Bd),k+x.length≤nb→(EZ nb k x p).1.holds.toL=p.1.holds.toL.take k++x++p.1.holds.toL.drop (k+x.length)∧(EZ nb k x p).1.turns=p.1.turns∧(EZ nb k x p).1.spares=p.1.spares
  | [],k,p,_=>by simp [EZ]
  | v::x,k,p,h=>by
    rw [List.length_cons] at h
    have e:Dz nb k v p=(⟨p.1.holds.put k v,p.1.turns,p.1.spares⟩,⟨p.2.number+min v 1,p.2.sum+v⟩):=by unfold Dz; rw [if_pos (by omega)]
    have IH:=MZ nb hnb x (k+1) (Dz nb k v p) (by omega)
    rw [EZ]
    refine⟨?_,by rw [IH.2.1,e],by rw [IH.2.2,e]⟩
    rw [IH.1,e]
    simp only []
    rw [AK.toL_put _ _ _ (by omega),List.length_cons]
    exact Ly _ _ _ _ (by show k+(x.length+1)≤4; omega)
theorem Na (nb:Nat) (hnb:nb≤4):∀ (x:List Int)(k:Nat)(p:An×Bd),nb≤k→k+x.length≤2*nb→(EZ nb k x p).1.turns.toL=p.1.turns.toL.take (k-nb)++x++p.1.turns.toL.drop (k-nb+x.length)∧(EZ nb k x p).1.holds=p.1.holds∧(EZ nb k x p).1.spares=p.1.spares
  | [],k,p,_,_=>by simp [EZ]
  | v::x,k,p,h0,h=>by
    rw [List.length_cons] at h
    have e:Dz nb k v p=(⟨p.1.holds,p.1.turns.put (k-nb) v,p.1.spares⟩,⟨p.2.number+min (v+1) 1,p.2.sum⟩):=by unfold Dz; rw [if_neg (by omega),if_pos (by omega)]
    have IH:=Na nb hnb x (k+1) (Dz nb k v p) (by omega) (by omega)
    rw [EZ]
    refine⟨?_,by rw [IH.2.1,e],by rw [IH.2.2,e]⟩
    rw [IH.1,e]
    simp only []
    rw [AK.toL_put _ _ _ (by omega),List.length_cons,show k+1-nb=k-nb+1 by omega]
    exact Ly _ _ _ _ (by show k-nb+(x.length+1)≤4; omega)
theorem Mb (nb:Nat):∀ (x:List Int)(k:Nat)(p:An×Bd),2*nb≤k→k+x.length≤2*nb+2→(EZ nb k x p).1.spares.toL=p.1.spares.toL.take (k-2*nb)++(x.map fun v=>v == 1)++p.1.spares.toL.drop (k-2*nb+x.length)∧(EZ nb k x p).1.holds=p.1.holds∧(EZ nb k x p).1.turns=p.1.turns
  | [],k,p,_,_=>by simp [EZ]
  | v::x,k,p,h0,h=>by
    rw [List.length_cons] at h
    have e:Dz nb k v p=(⟨p.1.holds,p.1.turns,p.1.spares.put (k-2*nb) (v == 1)⟩,⟨p.2.number+v,p.2.sum⟩):=by unfold Dz; rw [if_neg (by omega),if_neg (by omega)]
    have IH:=Mb nb x (k+1) (Dz nb k v p) (by omega) (by omega)
    rw [EZ]
    refine⟨?_,by rw [IH.2.1,e],by rw [IH.2.2,e]⟩
    rw [IH.1,e]
    simp only []
    rw [AU.toL_put _ _ _ (by omega),List.length_cons,show k+1-2*nb=k-2*nb+1 by omega,List.map_cons]
    have:=Ly p.1.spares.toL (x.map fun v=>v == 1) (v == 1) (k-2*nb) (by rw [List.length_map]; show k-2*nb+(x.length+1)≤2; omega)
    rw [List.length_map] at this
    exact this
def Ij (r:Af) (d:An):As:=⟨d.holds.toL.take r.buses.length,d.turns.toL.take r.buses.length,d.spares.toL.take r.spares.length⟩
theorem SY {α:Type} (xs:List α) (i:Nat) (h:i≤xs.length):N6 xs (i:Int)=some (xs.take i):=by
  unfold N6; rw [if_pos (by omega)]; rfl
theorem JL (n:Nat) (r:Af) (d:An) (hb:r.buses.length≤4) (hs:r.spares.length≤2):BU n d r=some (Ij r d):=by
  unfold BU
  rw [SY _ _ (by show _≤4; exact hb),Option.bind_some,SY _ _ (by show _≤4; exact hb),Option.bind_some,SY _ _ (by show _≤2; exact hs),Option.bind_some]
  rw [Kz n _ (by simp; omega),Option.bind_some,Kz n _ (by simp; omega),Option.bind_some,S1 n _ (by simp; omega),Option.bind_some]
  rfl
theorem Lz (r:Af) (q:List Int) (hb:r.buses.length≤4) (hs:r.spares.length≤2) (hq:q.length=2*r.buses.length+r.spares.length) (h01:∀ v∈q.drop (2*r.buses.length),v=0∨v=1) :
    Ij r (G4 r q).1=E3 r q∧(G4 r q).2=⟨HG (E3 r q),I8 (E3 r q)⟩∧enc (E3 r q)=q:=by
  have e0:q=q.take r.buses.length++((q.drop r.buses.length).take r.buses.length++q.drop (2*r.buses.length)):=by
    have e2:q.drop (2*r.buses.length)=(q.drop r.buses.length).drop r.buses.length:=by rw [List.drop_drop]; congr 1; omega
    rw [e2,List.take_append_drop,List.take_append_drop]
  have l1:(q.take r.buses.length).length=r.buses.length:=by rw [List.length_take]; omega
  have l2:((q.drop r.buses.length).take r.buses.length).length=r.buses.length:=by rw [List.length_take,List.length_drop]; omega
  have l3:(q.drop (2*r.buses.length)).length=r.spares.length:=by rw [List.length_drop]; omega
  have hbits:((q.drop (2*r.buses.length)).map fun v=>v == 1).map Ri=q.drop (2*r.buses.length):=by
    rw [List.map_map]
    conv=>rhs; rw [← List.map_id (q.drop (2*r.buses.length))]
    refine List.map_congr_left fun v hv=>?_
    rcases h01 v hv with rfl | rfl <;> rfl
  have e3:enc (E3 r q)=q:=by
    unfold enc E3
    simp only []
    rw [hbits,List.append_assoc]
    exact e0.symm
  refine⟨?_,?_,e3⟩
  · unfold G4 Ij E3
    generalize hX:q.take r.buses.length=X at *
    generalize hY:(q.drop r.buses.length).take r.buses.length=Y at *
    generalize hZ:q.drop (2*r.buses.length)=Z at *
    rw [e0,ID,ID]
    have a1:=MZ r.buses.length hb X 0 SM (by omega)
    have a2:=Na r.buses.length hb Y (0+X.length) (EZ r.buses.length 0 X SM) (by omega) (by omega)
    have a3:=Mb r.buses.length Z (0+X.length+Y.length) (EZ r.buses.length (0+X.length) Y (EZ r.buses.length 0 X SM)) (by omega) (by omega)
    rw [a3.1,a3.2.1,a3.2.2,a2.1,a2.2.1,a2.2.2,a1.1,a1.2.1,a1.2.2]
    simp only [Nat.zero_add,l1,l2,l3,Nat.sub_self,List.take_zero,List.nil_append,As.mk.injEq]
    rw [show r.buses.length+r.buses.length-2*r.buses.length=0 by omega]
    refine⟨?_,?_,?_⟩
    · conv=>lhs; rw [← l1]
      rw [List.take_left']
      rfl
    · conv=>lhs; rw [← l2]
      rw [List.take_left']
      rfl
    · rw [List.take_zero,List.nil_append]
      conv=>lhs; rw [← l3]
      rw [List.take_left']
      simp
  · unfold G4
    rw [O6]
    show Bd.mk (0+I9 r.buses.length 0 q) (0+IA r.buses.length 0 q)=_
    rw [Int.zero_add,Int.zero_add]
    conv=>lhs; rw [e0]
    rw [IB,IC,IB,IC]
    have a1:=MX r.buses.length (q.take r.buses.length) 0 (by omega)
    have a2:=MY r.buses.length ((q.drop r.buses.length).take r.buses.length) (0+(q.take r.buses.length).length) (by omega) (by omega)
    have a3:=Ma r.buses.length (q.drop (2*r.buses.length)) (0+(q.take r.buses.length).length+((q.drop r.buses.length).take r.buses.length).length) (by omega)
    rw [a1.1,a1.2,a2.1,a2.2,a3.1,a3.2]
    unfold HG I8 E3
    simp only []
    rw [hbits]
    simp only [Int.add_zero,Bd.mk.injEq]
    exact⟨by omega,trivial⟩
theorem G5 (r:Af):∀ (n k:Nat)(q:List Int),q∈HF r n k↔q.length=n∧∀ (i:Nat)(h:i<q.length),q[i]∈G2 r (k+i)
  | 0,k,q=>by
    rw [HF,List.mem_singleton]
    constructor
    · rintro rfl; exact⟨rfl,fun i h=>absurd h (Nat.not_lt_zero _)⟩
    · rintro⟨h,_⟩; exact List.length_eq_zero_iff.1 h
  | n+1,k,q=>by
    rw [HF,List.mem_flatMap]
    constructor
    · rintro⟨v,hv,hq⟩
      obtain⟨q',hq',rfl⟩:=List.mem_map.1 hq
      have IH:=(G5 r n (k+1) q').1 hq'
      refine⟨by rw [List.length_cons,IH.1],fun i h=>?_⟩
      cases i with
      | zero=>exact hv
      | succ i =>
        have:=IH.2 i (by simpa using h)
        rw [show k+(i+1)=k+1+i by omega]
        simpa using this
    · rintro⟨h1,h2⟩
      cases q with
      | nil=>simp at h1
      | cons v q =>
        refine⟨v,h2 0 (by simp),List.mem_map.2 ⟨q,(G5 r n (k+1) q).2 ⟨by simpa using h1,fun i h=>?_⟩,rfl⟩⟩
        have:=h2 (i+1) (by simpa using h)
        rw [show k+(i+1)=k+1+i by omega] at this
        simpa using this
theorem Mc (r:Af) (b:Ce) (t:Int) (h0:0≤b.stop):t∈M8 r b↔Kb r b t=true:=by
  unfold M8
  rw [List.mem_filter,List.mem_map]
  constructor
  · exact fun h=>h.2
  · intro h
    refine⟨?_,h⟩
    have h2:=h
    unfold Kb at h2
    rw [Bool.or_eq_true,decide_eq_true_eq,decide_eq_true_eq] at h2
    exact⟨(t+1).toNat,by rw [List.mem_range]; omega,by omega⟩
theorem Qm (r:Af) (k:Nat):(G2 r k).Pairwise (· < ·):=by
  unfold G2
  split
  · decide
  · split
    · unfold M8
      refine List.Pairwise.filter _ ?_
      rw [List.pairwise_map]
      exact List.pairwise_lt_range.imp fun h=>by omega
    · decide
theorem Md (r:Af):∀ n k:Nat,(HF r n k).Pairwise fun a b=>M5 a b=true
  | 0,_=>List.pairwise_singleton _ _
  | n+1,k=>by
    rw [HF,List.pairwise_flatMap]
    refine⟨fun v _=>?_,(Qm r k).imp fun {a b} hab=>?_⟩
    · rw [List.pairwise_map]
      exact(Md r n (k+1)).imp fun h=>by rw [M5,if_pos rfl]; exact h
    · intro x hx y hy
      obtain⟨x',_,rfl⟩:=List.mem_map.1 hx
      obtain⟨y',_,rfl⟩:=List.mem_map.1 hy
      rw [M5,if_neg (by omega)]
      exact decide_eq_true hab
theorem HI {r:Af} {q:List Int} (h:q∈Dc r):q.length=2*r.buses.length+r.spares.length∧∀ v∈q.drop (2*r.buses.length),v=0∨v=1:=by
  obtain⟨h1,h2⟩:=(G5 r _ 0 q).1 h
  refine⟨h1,fun v hv=>?_⟩
  obtain⟨i,hi,rfl⟩:=List.mem_iff_getElem.1 hv
  rw [List.length_drop] at hi
  have:=h2 (2*r.buses.length+i) (by omega)
  unfold G2 at this
  rw [if_neg (by omega),if_neg (by omega)] at this
  rw [List.getElem_drop]
  simpa using this
theorem O7 {r:Af} (V:Cf r) {q:List Int} (h:q∈Dc r):D4 r (E3 r q)=true:=by
  have h01:=HI h
  obtain⟨h1,h2⟩:=(G5 r _ 0 q).1 h
  have l1:(q.take r.buses.length).length=r.buses.length:=by rw [List.length_take]; omega
  have l2:((q.drop r.buses.length).take r.buses.length).length=r.buses.length:=by rw [List.length_take,List.length_drop]; omega
  unfold D4 E3
  simp only [Bool.and_eq_true,decide_eq_true_eq,List.all_eq_true,List.mem_range]
  refine⟨⟨l1,l2,by rw [List.length_map,List.length_drop]; omega⟩,fun i hi=>?_⟩
  unfold Hu
  simp only []
  rw [BQ _ _ (by omega),BQ _ _ (by omega),List.getElem_take,List.getElem_take,List.getElem_drop]
  have a1:=h2 i (by omega)
  have a2:=h2 (r.buses.length+i) (by omega)
  unfold G2 at a1 a2
  rw [if_pos (by omega)] at a1
  rw [if_neg (by omega),if_pos (by omega),show 0+(r.buses.length+i)-r.buses.length=i by omega,Mc r _ _ (by rw [BQ _ _ hi]; exact(V.buses _ (List.getElem_mem hi)).1)] at a2
  rw [Bool.and_eq_true]
  refine⟨decide_eq_true ?_,a2⟩
  simp only [List.mem_cons,List.not_mem_nil,or_false] at a1
  omega
theorem Jz {r:Af} (V:Cf r) {a:As} (h:D4 r a=true):enc a∈Dc r∧E3 r (enc a)=a:=by
  have A:=Gw h
  have l1:=A.holds
  have l2:=A.turns
  have l3:=A.spares
  have hlen:(enc a).length=2*r.buses.length+r.spares.length:=by unfold enc; rw [List.length_append,List.length_append,List.length_map]; omega
  constructor
  · refine(G5 r _ 0 _).2 ⟨hlen,fun i hi=>?_⟩
    rw [Nat.zero_add]
    have hi':i<(a.holds++a.turns++a.spares.map Ri).length:=hi
    unfold G2
    by_cases c1:i<r.buses.length
    · rw [if_pos c1]
      have:(enc a)[i]'hi=a.holds[i]:=by
        show(a.holds++a.turns++a.spares.map Ri)[i]'hi' = _
        rw [List.getElem_append_left (by rw [List.length_append]; omega),List.getElem_append_left (by omega)]
      rw [this]
      have:=A.hold i c1
      rw [BQ _ _ (by omega)] at this
      simp only [List.mem_cons,List.not_mem_nil,or_false]
      omega
    · rw [if_neg c1]
      by_cases c2:i<2*r.buses.length
      · rw [if_pos c2]
        have hib:i-r.buses.length<r.buses.length:=by omega
        rw [Mc r _ _ (by rw [BQ _ _ hib]; exact(V.buses _ (List.getElem_mem hib)).1)]
        have:(enc a)[i]'hi=a.turns[i-r.buses.length]!:=by
          rw [BQ _ _ (by omega)]
          show(a.holds++a.turns++a.spares.map Ri)[i]'hi' = _
          rw [List.getElem_append_left (by rw [List.length_append]; omega),List.getElem_append_right (by omega)]
          congr 1; omega
        rw [this]
        have:=A.turn _ hib
        unfold Kb
        rw [Bool.or_eq_true,decide_eq_true_eq,decide_eq_true_eq]
        exact this
      · rw [if_neg c2]
        have:(enc a)[i]'hi=Ri (a.spares[i-2*r.buses.length]'(by rw [l3]; omega)):=by
          show(a.holds++a.turns++a.spares.map Ri)[i]'hi' = _
          rw [List.getElem_append_right (by rw [List.length_append]; omega),List.getElem_map]
          congr 2; rw [List.length_append]; omega
        rw [this]
        unfold Ri
        split <;> simp
  · unfold E3 enc
    have e1:(a.holds++a.turns++a.spares.map Ri).take r.buses.length=a.holds:=by
      rw [List.append_assoc,← l1,List.take_left']; rfl
    have e2:(a.holds++a.turns++a.spares.map Ri).drop r.buses.length=a.turns++a.spares.map Ri:=by
      rw [List.append_assoc,← l1,List.drop_left']; rfl
    have e3:(a.holds++a.turns++a.spares.map Ri).drop (2*r.buses.length)=a.spares.map Ri:=by
      rw [List.drop_left']; rw [List.length_append]; omega
    rw [e1,e2,e3]
    have e4:(a.turns++a.spares.map Ri).take r.buses.length=a.turns:=by
      rw [← l2,List.take_left']; rfl
    have e5:((a.spares.map Ri).map fun v=>v == 1)=a.spares:=by
      rw [List.map_map]
      conv=>rhs; rw [← List.map_id a.spares]
      exact List.map_congr_left fun b _=>by cases b <;> rfl
    rw [e4,e5]
end Go.Proofs.Ytokchpjijlebiaa
namespace Go.Proofs.Ytokchpjijlebiaa
open Go Go.RowKit
theorem HJ {α:Type} (f:α→Int):∀ (l:List α)(b g:Int),l.foldl (fun b m=>max b (f m)) b≤g↔b≤g∧∀ m∈l,f m≤g
  | [],b,g=>by simp
  | m::l,b,g=>by
    rw [List.foldl_cons,HJ f l]
    simp only [List.mem_cons,forall_eq_or_imp]
    constructor
    · rintro⟨h1,h2⟩; exact⟨by omega,by omega,h2⟩
    · rintro⟨h1,h2,h3⟩; exact⟨by omega,h3⟩
theorem F4 {m e:Int}:∀ {l:List Rg} {to_:Int},e≤Cc m to_ l↔e≤to_∧∀ p∈l,p.lo>m→e≤p.hi
  | [],to_=>by simp [Cc]
  | p::r,to_=>by
    show e≤Cc m (if p.lo>m then min to_ p.hi else to_) r↔_
    rw [F4]
    simp only [List.mem_cons,forall_eq_or_imp]
    by_cases h:p.lo>m
    · simp only [h,if_true,true_implies]
      constructor
      · rintro⟨h1,h2⟩; exact⟨by omega,by omega,h2⟩
      · rintro⟨h1,h2,h3⟩; exact⟨by omega,h3⟩
    · simp only [h,if_false,false_implies,true_and]
theorem RU {fr to_ g:Int} {l:List Rg}:WR fr to_ l≤g↔0≤g∧∀ m∈DU fr to_ l,Cc m to_ l-m≤g:=HJ _ _ _ _
theorem O8 (fr to_:Int) (l:List Rg):0≤WR fr to_ l:=(RU.1 (Int.le_refl _)).1
theorem Kc (m to_:Int) (l:List Rg):Cc m to_ l≤to_:=(F4.1 (Int.le_refl _)).1
theorem SZ {fr to_:Int} {l:List Rg} (h:fr≤to_):WR fr to_ l≤to_-fr:=RU.2 ⟨by omega,fun m hm=>by
  have:=I5 h hm
  have:=Kc m to_ l
  omega⟩
theorem Nb {fr to_ m:Int} (h0:fr≤m) (h1:m≤to_):∀ l:List Rg,∃ x∈DU fr to_ l,x≤m∧fr≤x∧∀ p∈l,p.lo≤m→p.lo≤x
  | []=>⟨fr,by simp [DU],h0,Int.le_refl _,by simp⟩
  | p::r=>by
    obtain⟨x,hx,h2,h3,h4⟩:=Nb h0 h1 r
    have sub:∀ z∈DU fr to_ r,z∈DU fr to_ (p::r):=fun z hz=>by
      unfold DU at hz ⊢
      rcases List.mem_cons.1 hz with rfl | hz
      · simp
      · obtain⟨q,hq,rfl⟩:=List.mem_map.1 hz
        rw [List.mem_filter] at hq
        exact List.mem_cons_of_mem _ (List.mem_map_of_mem (List.mem_filter.2 ⟨List.mem_cons_of_mem _ hq.1,hq.2⟩))
    by_cases hp:x<p.lo∧p.lo≤m
    · refine⟨p.lo,?_,hp.2,by omega,fun q hq hqm=>?_⟩
      · unfold DU
        refine List.mem_cons_of_mem _ (List.mem_map_of_mem (List.mem_filter.2 ⟨by simp,?_⟩))
        rw [Bool.and_eq_true,decide_eq_true_eq,decide_eq_true_eq]
        omega
      · rcases List.mem_cons.1 hq with rfl | hq
        · exact Int.le_refl _
        · have:=h4 q hq hqm; omega
    · refine⟨x,sub x hx,h2,h3,fun q hq hqm=>?_⟩
      rcases List.mem_cons.1 hq with rfl | hq
      · omega
      · exact h4 q hq hqm
theorem U9 {fr to_ m:Int} {l:List Rg} (h0:fr≤m) (h1:m≤to_):Cc m to_ l-m≤WR fr to_ l:=by
  obtain⟨x,hx,h2,h3,h4⟩:=Nb h0 h1 l
  have:=(RU.1 (Int.le_refl (WR fr to_ l))).2 x hx
  have:Cc m to_ l≤Cc x to_ l:=F4.2 ⟨Kc _ _ _,fun p hp hpx=>by
    rcases Int.lt_or_le m p.lo with h | h
    · exact(F4.1 (Int.le_refl (Cc m to_ l))).2 p hp h
    · have:=h4 p hp h; omega⟩
  omega
def Vj (l l':List Rg):Prop:=∀ p∈l,∃ p'∈l',p.lo≤p'.lo∧p'.hi≤p.hi
theorem Vj.sub {l l':List Rg} (h:∀ p∈l,p∈l'):Vj l l':=fun p hp=>⟨p,h p hp,Int.le_refl _,Int.le_refl _⟩
theorem UA {fr to_ fr' to':Int} {l l':List Rg} (h:Vj l l') (h0:fr≤fr') (h1:fr'≤to') (h2:to'≤to_):WR fr' to' l'≤WR fr to_ l:=RU.2 ⟨O8 _ _ _,fun m hm=>by
  have hb:=I5 h1 hm
  have:=U9 (fr:=fr) (to_:=to_) (m:=m) (l:=l) (by omega) (by omega)
  have:Cc m to' l'≤Cc m to_ l:=F4.2 ⟨Int.le_trans (Kc _ _ _) h2,fun p hp hpm=>by
    obtain⟨p',hp',h3,h4⟩:=h p hp
    have:=(F4.1 (Int.le_refl (Cc m to' l'))).2 p' hp' (by omega)
    omega⟩
  omega⟩
def maxL:List Int→Int
  | []=>0
  | x::xs=>xs.foldl (fun b x=>max b x) x
def maxW (r:Af) (a:As):Int:=maxL (BV r a)
theorem Ps {l:List Int} {g:Int} (h:l≠[]):maxL l≤g↔∀ w∈l,w≤g:=by
  cases l with
  | nil=>exact absurd rfl h
  | cons x xs =>
    unfold maxL
    rw [HJ (fun x=>x)]
    simp
theorem GP (r:Af) (a:As):BV r a≠[]:=by
  unfold BV
  rw [List.range_succ]; simp
theorem Pt {r:Af} {a:As} {g:Int}:maxW r a≤g↔∀ w∈BV r a,w≤g:=Ps (GP r a)
theorem M6 {r:Af} {a:As} {w:Int} (h:w∈BV r a):0≤w:=by
  obtain⟨k,_,rfl⟩:=List.mem_map.1 h
  exact O8 _ _ _
theorem Nc {r:Af} (V:Cf r) (a:As):0≤maxW r a∧maxW r a≤r.to_-r.fr:=by
  constructor
  · have h:=GP r a
    obtain⟨w,hw⟩:=List.exists_mem_of_ne_nil _ h
    exact Int.le_trans (M6 hw) (Pt.1 (Int.le_refl _) w hw)
  · refine Pt.2 fun w hw=>?_
    obtain⟨k,_,rfl⟩:=List.mem_map.1 hw
    exact SZ V.looked.2.1
def G6 (r:Af) (a:As) (g:Int):Bool:=(BV r a).all fun w=>decide (w≤g)
theorem Kd {r:Af} {a:As} {g:Int}:G6 r a g=true↔maxW r a≤g:=by
  rw [Pt]
  unfold G6
  simp [List.all_eq_true]
theorem Me (r:Af) (most:Int) (sp:List (List (Int×Rg))) (hs:sp.length≤50) (hl:∀ l∈sp,l.length≤20∧∀ p∈l.map Prod.snd,p.lo≤p.hi) (h0:0≤r.fr) (h1:r.fr≤r.to_) (h2:r.to_≤2000):∀ (n i:Nat),sp.length+60<n+i→i≤sp.length →
    Bv n r most (sp.map E5.mk) (i:Int)=some ((sp.drop i).all fun l=>decide (WR r.fr r.to_ (l.map Prod.snd)≤most))
  | 0,i,h,hi=>by omega
  | n+1,i,h,hi=>by
    rw [Bv,BB,List.length_map]
    by_cases hx:i<sp.length
    · simp only [hx,decide_true,cond_true]
      rw [Bf _ i (by simpa using hx)]
      simp only [Option.bind_some,List.getElem_map]
      have:=hl _ (List.getElem_mem hx)
      rw [O2 n r _ (by omega) this.1 this.2 h0 h1 h2]
      simp only [Option.bind_some]
      rw [BA hx,List.all_cons]
      by_cases hw:WR r.fr r.to_ (sp[i].map Prod.snd)≤most
      · rw [decide_eq_false (show ¬ WR r.fr r.to_ (sp[i].map Prod.snd)>most by omega),cond_false,decide_eq_true hw,Bool.true_and]
        rw [Du i (by omega),Me r most sp hs hl h0 h1 h2 n (i+1) (by omega) (by omega)]
      · rw [decide_eq_true (show WR r.fr r.to_ (sp[i].map Prod.snd)>most by omega),cond_true,decide_eq_false hw,Bool.false_and]
    · have:i=sp.length:=by omega
      simp [this]
theorem Ta (n:Nat) (r:Af) (d:An) (most:Int) (V:Cf r) (hA:D4 r (Ij r d)=true) (hn:110≤n) (hn2:n≤900):CG n r d most=some (G6 r (Ij r d) most):=by
  have A:=Gw hA
  have:=V.nl
  have:=V.nb
  have:=V.ns
  have:=V.looked
  unfold CG
  rw [JL n r d V.nb V.ns,Option.bind_some,Qj n r _ V A (by omega) hn2,Option.bind_some]
  have e:=Me r most ((List.range (r.legs.length+1)).map fun(k:Nat)=>Co ((r.legs.length:Int)+1) 40 k 0 (Fb r (Ij r d))) (by simp; omega) (fun l hl=>by
    obtain⟨k,_,rfl⟩:=List.mem_map.1 hl
    refine⟨?_,by rw [CL]; exact O4 V A k⟩
    have h1:(Co ((r.legs.length:Int)+1) 40 k 0 (Fb r (Ij r d))).length=((Co ((r.legs.length:Int)+1) 40 k 0 (Fb r (Ij r d))).map Prod.snd).length:=by simp
    rw [h1,CL]
    refine Nat.le_trans (List.length_filterMap_le _ _) ?_
    rw [← Jy,List.length_zip]
    have:=Gt r (Ij r d) Rg.lo
    omega) (by omega) (by omega) (by omega) n 0 (by simp; omega) (by omega)
  rw [List.map_map,Int.natCast_zero,List.drop_zero,List.all_map] at e
  rw [show(E5.mk ∘ fun(k:Nat)=>Co ((r.legs.length:Int)+1) 40 k 0 (Fb r (Ij r d)))=fun(k:Nat)=>E5.mk (Co ((r.legs.length:Int)+1) 40 k 0 (Fb r (Ij r d))) from rfl] at e
  rw [e,Option.bind_some]
  unfold G6 BV
  rw [List.all_map]
  simp only [Function.comp_def,CL,CN]
def J0 (r:Af) (x y:List Int):Bool:=CT (E3 r x) (E3 r y)
def Mf (r:Af) (x y:List Int):Bool:=decide (HG (E3 r x)<HG (E3 r y)) || (decide (HG (E3 r x)=HG (E3 r y)) && decide (I8 (E3 r x)<I8 (E3 r y)))
def JM (r:Af) (o:Option (List Int)) (q:List Int):Option (List Int):=match o with
  | none=>if G6 r (E3 r q) r.gap then some q else none
  | some y=>if Mf r q y && G6 r (E3 r q) r.gap then some q else some y
def Ol (r:Af):Option (List Int)→Bool×Bd×An
  | none=>(false,SM.2,SM.1)
  | some q=>(true,(G4 r q).2,(G4 r q).1)
theorem TW (c l:Bd):(bif ((c.number == l.number) && ((c.sum == l.sum) && true)) then some true else(bif decide (c.number>l.number) then some true else(bif (c.number == l.number) then some (decide (c.sum>l.sum)) else some false)))=some (!(decide (c.number<l.number) || (decide (c.number=l.number) && decide (c.sum<l.sum)))):=by
  by_cases e1:c.number=l.number
  · rw [decide_eq_false (show ¬ c.number>l.number by omega),decide_eq_false (show ¬ c.number<l.number by omega),decide_eq_true e1,beq_iff_eq.2 e1]
    simp only [Bool.true_and,Bool.and_true,Bool.false_or,cond_false,cond_true]
    by_cases e2:c.sum=l.sum
    · rw [beq_iff_eq.2 e2,decide_eq_false (show ¬ c.sum<l.sum by omega)]; rfl
    · rw [beq_eq_false_iff_ne.2 e2,cond_false]
      congr 1
      by_cases e3:c.sum<l.sum
      · rw [decide_eq_true e3,decide_eq_false (by omega)]; rfl
      · rw [decide_eq_false e3,decide_eq_true (by omega)]; rfl
  · rw [beq_eq_false_iff_ne.2 e1,decide_eq_false e1]
    simp only [Bool.false_and,Bool.or_false,cond_false]
    by_cases e3:c.number<l.number
    · rw [decide_eq_true e3,decide_eq_false (by omega)]; rfl
    · rw [decide_eq_false e3,decide_eq_true (by omega)]; rfl
theorem S4 (n:Nat) (r:Af) (V:Cf r) (hn:110≤n) (hn2:n≤900) (o:Option (List Int)) (ho:∀ y,o=some y→y∈Dc r) (q:List Int) (hq:q∈Dc r) :
    Cj n (G4 r q).1 (G4 r q).2 (Ol r o).1 (Ol r o).2.1 (Ol r o).2.2 r=some (Ol r (JM r o q)):=by
  have d1:=Lz r q V.nb V.ns (HI hq).1 (HI hq).2
  have hk:=Ta n r (G4 r q).1 r.gap V (by rw [d1.1]; exact O7 V hq) hn hn2
  rw [d1.1] at hk
  unfold Cj
  cases o with
  | none =>
    simp only [Ol,JM,cond_false,Option.bind_some]
    rw [hk,Option.bind_some]
    cases G6 r (E3 r q) r.gap <;> rfl
  | some y =>
    have hy:=ho y rfl
    have d2:=Lz r y V.nb V.ns (HI hy).1 (HI hy).2
    rw [show Ol r (some y)=(true,(G4 r y).2,(G4 r y).1) from rfl]
    simp only [cond_true]
    rw [TW,Option.bind_some,hk,Option.bind_some]
    have hl:(decide ((G4 r q).2.number<(G4 r y).2.number) || (decide ((G4 r q).2.number=(G4 r y).2.number) && decide ((G4 r q).2.sum<(G4 r y).2.sum)))=Mf r q y:=by
      unfold Mf
      rw [d1.2.1,d2.2.1]
    rw [hl]
    unfold JM
    simp only []
    cases Mf r q y <;> cases G6 r (E3 r q) r.gap <;> rfl
theorem O9 (n:Nat) (r:Af) (V:Cf r) (hn:110≤n) (hn2:n≤900):∀ (l:List (List Int))(o:Option (List Int)),(∀ y,o=some y→y∈Dc r)→(∀ q∈l,q∈Dc r) →
    l.foldlM (fun s q=>Cj n (G4 r q).1 (G4 r q).2 s.1 s.2.1 s.2.2 r) (Ol r o)=some (Ol r (l.foldl (JM r) o))
  | [],o,_,_=>rfl
  | q::l,o,ho,hl=>by
    rw [List.foldlM_cons,S4 n r V hn hn2 o ho q (hl q (by simp)),List.foldl_cons]
    refine O9 n r V hn hn2 l _ (fun y hy=>?_) fun q' hq'=>hl q' (List.mem_cons_of_mem _ hq')
    unfold JM at hy
    cases o with
    | none =>
      simp only [] at hy
      split at hy
      · cases hy; exact hl _ (by simp)
      · cases hy
    | some z =>
      simp only [] at hy
      split at hy
      · cases hy; exact hl _ (by simp)
      · cases hy; exact ho _ rfl
def Uu (r:Af) (seen:List (List Int)):Option (List Int)→Prop
  | none=>∀ x∈seen,G6 r (E3 r x) r.gap=false
  | some y=>y∈seen∧G6 r (E3 r y) r.gap=true∧∀ x∈seen,G6 r (E3 r x) r.gap=true→J0 r x y=false
theorem OA (r:Af) (he:∀ x∈Dc r,enc (E3 r x)=x):∀ (l seen:List (List Int))(o:Option (List Int)),(seen++l).Pairwise (fun a b=>M5 a b=true)→(∀ x∈seen++l,x∈Dc r)→Uu r seen o→Uu r (seen++l) (l.foldl (JM r) o)
  | [],seen,o,_,_,h=>by rw [List.append_nil]; exact h
  | q::l,seen,o,hp,hm,h=>by
    rw [List.foldl_cons]
    have e:seen++q::l=(seen++[q])++l:=by simp
    rw [e] at hp hm ⊢
    refine OA r he l (seen++[q]) _ hp hm ?_
    have hq:q∈Dc r:=hm q (by simp)
    have hlt:∀ s∈seen,M5 s q=true:=fun s hs=>by
      rw [List.pairwise_append,List.pairwise_append] at hp
      exact hp.1.2.2 s hs q (by simp)
    have hirr:J0 r q q=false:=by unfold J0 CT; simp [HH]
    cases o with
    | none =>
      unfold JM
      simp only []
      split
      · rename_i hk
        refine⟨by simp,hk,fun x hx hkx=>?_⟩
        rcases List.mem_append.1 hx with hx | hx
        · rw [h x hx] at hkx; cases hkx
        · simp at hx; subst hx; exact hirr
      · rename_i hk
        intro x hx
        rcases List.mem_append.1 hx with hx | hx
        · exact h x hx
        · simp at hx; subst hx; simpa using hk
    | some y =>
      obtain⟨hy,hyk,hyb⟩:=h
      have hya:y∈Dc r:=hm y (List.mem_append_left _ (List.mem_append_left _ hy))
      unfold JM
      simp only []
      split
      · rename_i hk
        rw [Bool.and_eq_true] at hk
        refine⟨by simp,hk.2,fun x hx hkx=>?_⟩
        rcases List.mem_append.1 hx with hx | hx
        · have h1:=hyb x hx hkx
          have h2:=hk.1
          unfold Mf at h2
          rw [Bool.or_eq_true,Bool.and_eq_true,decide_eq_true_eq,decide_eq_true_eq,decide_eq_true_eq] at h2
          unfold J0 CT at h1 ⊢
          split at h1
          · rename_i n1
            split at h1
            · rename_i s1
              rcases h2 with h2 | h2
              · rw [if_neg (by omega)]; exact decide_eq_false (by omega)
              · rw [if_pos (by omega),if_neg (by omega)]; exact decide_eq_false (by omega)
            · rename_i s1
              have:=of_decide_eq_false h1
              rcases h2 with h2 | h2
              · rw [if_neg (by omega)]; exact decide_eq_false (by omega)
              · rw [if_pos (by omega),if_neg (by omega)]; exact decide_eq_false (by omega)
          · rename_i n1
            have:=of_decide_eq_false h1
            rw [if_neg (by omega)]; exact decide_eq_false (by omega)
        · simp at hx; subst hx; exact hirr
      · rename_i hk
        refine⟨List.mem_append_left _ hy,hyk,fun x hx hkx=>?_⟩
        rcases List.mem_append.1 hx with hx | hx
        · exact hyb x hx hkx
        · simp at hx; subst hx
          have h2:Mf r x y=false:=by
            cases h3:Mf r x y with
            | false=>rfl
            | true=>rw [h3,hkx] at hk; exact absurd rfl hk
          unfold Mf at h2
          rw [Bool.or_eq_false_iff,Bool.and_eq_false_iff,decide_eq_false_iff_not,decide_eq_false_iff_not,decide_eq_false_iff_not] at h2
          unfold J0 CT
          split
          · split
            · rw [he x hq,he y hya]; exact O5 (hlt y hy)
            · exact decide_eq_false (by omega)
          · exact decide_eq_false (by omega)
theorem L0 (n:Nat) (r:Af) (hF:CB r=0) (hn:110≤n) (hn2:n≤900) :
    (∃ b,C2 n r=some (b,0)∧D4 r b=true∧maxW r b≤r.gap∧∀ a,D4 r a=true→maxW r a≤r.gap→CT a b=false) ∨
    (C2 n r=some (⟨[],[],[]⟩,9)∧∀ a,D4 r a=true→r.gap<maxW r a):=by
  have V:=Ht hF
  have:=V.nl
  have:=V.nb
  have:=V.ns
  unfold C2
  rw [Qf n r (by omega) (by omega) (by omega) (by omega),hF,Option.bind_some]
  simp only [bne_self_eq_false,cond_false]
  have e:BM n (fun s y0 y1=>Cj n y0 y1 s.1 s.2.1 s.2.2 r) r (false,Bd.mk 0 0,(An.mk (AK.mk 0 0 0 0) (AK.mk 0 0 0 0) (AU.mk false false)))=some (Ol r ((Dc r).foldl (JM r) none)) :=
    (SW _ n r _ V.nb V.ns V.nl (by omega)).trans (O9 n r V hn hn2 (Dc r) none (fun y h=>by cases h) fun q h=>h)
  rw [e,Option.bind_some]
  have hw:∀ x∈Dc r,Ij r (G4 r x).1=E3 r x∧(G4 r x).2=⟨HG (E3 r x),I8 (E3 r x)⟩∧enc (E3 r x)=x:=fun x hx=>Lz r x V.nb V.ns (HI hx).1 (HI hx).2
  have hP:=OA r (fun x hx=>(hw x hx).2.2) (Dc r) [] none (Md r _ 0) (fun x h=>h) (fun x h=>by cases h)
  rw [List.nil_append] at hP
  cases ho:(Dc r).foldl (JM r) none with
  | none =>
    rw [ho] at hP
    refine .inr ⟨rfl,fun a ha=>?_⟩
    obtain⟨h1,h2⟩:=Jz V ha
    have h3:=hP _ h1
    rw [h2] at h3
    rcases Int.lt_or_le r.gap (maxW r a) with h | h
    · exact h
    · rw [Kd.2 h] at h3; cases h3
  | some y =>
    rw [ho] at hP
    obtain⟨hy,hyk,hyb⟩:=hP
    refine .inl ⟨E3 r y,?_,O7 V hy,Kd.1 hyk,fun a ha hk=>?_⟩
    · simp only [Ol,Bool.not_true,cond_false]
      rw [JL n r _ V.nb V.ns,(hw y hy).1]
      rfl
    · obtain⟨h1,h2⟩:=Jz V ha
      have h3:=hyb _ h1 (by rw [h2]; exact Kd.2 hk)
      unfold J0 at h3
      rw [h2] at h3
      exact h3
end Go.Proofs.Ytokchpjijlebiaa
namespace Go.Proofs.Ytokchpjijlebiaa
open Go Go.RowKit
end Go.Proofs.Ytokchpjijlebiaa
namespace Go.Proofs.Ytokchpjijlebiaa
open Go Go.RowKit
structure SN (p q:AX×Ax):Prop where
  stop:p.1.stop=q.1.stop
  turned:p.1.turned=q.1.turned
  tm:p.1.tm≤q.1.tm
  turn:p.2.turn≤q.2.turn
  len:p.2.legs.length=q.2.legs.length
  legs:∀ (k:Nat)(d d':Int),p.2.legs[k]? = some d→q.2.legs[k]? = some d'→d≤d'
def Ft (st:Int) (p:AX×Ax) (k:Int):Option Int:=BH (Bw st p.1.turned p.2.turn p.2.legs 40 p.1.tm p.1.stop) k
theorem SN.at {p q:AX×Ax} (h:SN p q) {st:Int} (ht:2*p.1.turned+1<st) (k:Int):(Ft st p k=none∧Ft st q k=none)∨∃ a b,Ft st p k=some a∧Ft st q k=some b∧a≤b:=by
  unfold Ft
  rw [← h.stop,← h.turned]
  exact Hq ht h.len h.legs h.turn 40 _ _ _ k h.tm
theorem FP {st:Int} {p:(AX×Ax)×(AX×Ax)} {k:Int} {x:Rg}:Dx st 40 p k=some x↔Ft st p.1 k=some x.lo∧Ft st p.2 k=some x.hi:=by
  unfold Dx Ft
  cases BH (Bw st p.1.1.turned p.1.2.turn p.1.2.legs 40 p.1.1.tm p.1.1.stop) k with
  | none=>simp
  | some a =>
    cases BH (Bw st p.2.1.turned p.2.2.turn p.2.2.legs 40 p.2.1.tm p.2.1.stop) k with
    | none=>simp
    | some b =>
      simp only [Option.some.injEq]
      constructor
      · rintro rfl; exact⟨rfl,rfl⟩
      · rintro⟨h1,h2⟩; cases x; simp_all
theorem Mg {st:Int} {p p':(AX×Ax)×(AX×Ax)} (h1:SN p.1 p'.1) (h2:SN p'.2 p.2) (t1:2*p.1.1.turned+1<st) (t2:2*p'.2.1.turned+1<st) {k:Int} {x:Rg} (h:Dx st 40 p k=some x):∃ x',Dx st 40 p' k=some x'∧x.lo≤x'.lo∧x'.hi≤x.hi:=by
  obtain⟨a1,a2⟩:=FP.1 h
  rcases h1.at t1 k with⟨b1,_⟩ | ⟨a,b,b1,b2,b3⟩
  · rw [b1] at a1; cases a1
  · rcases h2.at t2 k with⟨_,c1⟩ | ⟨c,d,c1,c2,c3⟩
    · rw [c1] at a2; cases a2
    · rw [b1] at a1; cases a1
      rw [c2] at a2; cases a2
      exact⟨⟨b,c⟩,FP.2 ⟨b2,c1⟩,b3,c3⟩
structure RV (r x:Af):Prop where
  ll:x.legs.length=r.legs.length
  legs:∀ (i:Nat)(a b:Rg),r.legs[i]? = some a→x.legs[i]? = some b→a.lo≤b.lo∧b.lo≤b.hi∧b.hi≤a.hi
  turn:r.turn.lo≤x.turn.lo∧x.turn.lo≤x.turn.hi∧x.turn.hi≤r.turn.hi
  lb:x.buses.length=r.buses.length
  buses:∀ (i:Nat)(a b:Ce),r.buses[i]? = some a→x.buses[i]? = some b→a.stop=b.stop∧a.tm.lo≤b.tm.lo∧b.tm.lo≤b.tm.hi∧b.tm.hi≤a.tm.hi
  spares:x.spares=r.spares
  unit:x.unit=r.unit
  gap:x.gap=r.gap
  fr:x.fr=r.fr
  to_:x.to_=r.to_
theorem RV.valid {r x:Af} (h:RV r x) (V:Cf r):Cf x:=by
  refine⟨by rw [h.lb]; exact V.nb,by rw [h.spares]; exact V.ns,by rw [h.ll]; exact V.odd,by rw [h.ll]; exact V.nl,?_,by rw [h.unit]; exact V.unit,by rw [h.gap]; exact V.gap,by rw [h.fr,h.to_]; exact V.looked,fun b hb=>?_,fun b hb=>?_,?_⟩
  · have:=V.turn; have:=h.turn; omega
  · obtain⟨i,hi,rfl⟩:=List.mem_iff_getElem.1 hb
    have hi':i<r.legs.length:=by rw [← h.ll]; exact hi
    have:=h.legs i _ _ (List.getElem?_eq_getElem hi') (List.getElem?_eq_getElem hi)
    have:=V.legs _ (List.getElem_mem hi')
    omega
  · obtain⟨i,hi,rfl⟩:=List.mem_iff_getElem.1 hb
    have hi':i<r.buses.length:=by rw [← h.lb]; exact hi
    have:=h.buses i _ _ (List.getElem?_eq_getElem hi') (List.getElem?_eq_getElem hi)
    have:=V.buses _ (List.getElem_mem hi')
    have:=h.ll
    omega
  · rw [h.spares,h.ll]; exact V.spares
theorem RV.acts {r x:Af} (h:RV r x) (a:As):D4 x a=D4 r a:=by
  unfold D4
  rw [h.lb,h.spares]
  congr 1
  rw [Bool.eq_iff_iff,List.all_eq_true,List.all_eq_true]
  have key:∀ i,i<r.buses.length→Hu x a i=Hu r a i:=fun i hi=>by
    have hi':i<x.buses.length:=by rw [h.lb]; exact hi
    have:=(h.buses i _ _ (List.getElem?_eq_getElem hi) (List.getElem?_eq_getElem hi')).1
    unfold Hu
    rw [BQ _ _ hi,BQ _ _ hi',this,h.ll]
  constructor
  · intro H i hi; rw [← key i (by simpa using hi)]; exact H i hi
  · intro H i hi; rw [key i (by simpa using hi)]; exact H i hi
theorem RV.legsLo {r x:Af} (h:RV r x):∀ (k:Nat)(d d':Int),(r.legs.map Rg.lo)[k]? = some d→(x.legs.map Rg.lo)[k]? = some d'→d≤d':=fun k d d' h1 h2=>by
  rw [List.getElem?_map] at h1 h2
  obtain⟨a,ha,rfl⟩:=Option.map_eq_some_iff.1 h1
  obtain⟨b,hb,rfl⟩:=Option.map_eq_some_iff.1 h2
  exact(h.legs k a b ha hb).1
theorem RV.legsHi {r x:Af} (h:RV r x):∀ (k:Nat)(d d':Int),(x.legs.map Rg.hi)[k]? = some d→(r.legs.map Rg.hi)[k]? = some d'→d≤d':=fun k d d' h1 h2=>by
  rw [List.getElem?_map] at h1 h2
  obtain⟨a,ha,rfl⟩:=Option.map_eq_some_iff.1 h1
  obtain⟨b,hb,rfl⟩:=Option.map_eq_some_iff.1 h2
  exact(h.legs k b a hb ha).2.2
theorem RV.dom {r x:Af} (h:RV r x) (V:Cf r) {a:As} (A:EI r a) (k:Nat):Vj (CN r a k) (CN x a k):=by
  intro p hp
  have hV:=h.valid V
  unfold CN at hp ⊢
  obtain⟨P,hP,hs⟩:=List.mem_filterMap.1 hp
  rw [h.ll]
  unfold Fb at hP
  rcases List.mem_append.1 hP with hP | hP
  · obtain⟨i,hi,rfl⟩:=List.mem_map.1 hP
    have hi:i<r.buses.length:=by simpa using hi
    have hi':i<x.buses.length:=by rw [h.lb]; exact hi
    have hb:=h.buses i _ _ (List.getElem?_eq_getElem hi) (List.getElem?_eq_getElem hi')
    have o1:=(K3 Ec.low V A i hi).t
    have ht:=h.turn
    have L1:SN (DR r a Rg.lo i) (DR x a Rg.lo i):=by
      refine⟨?_,rfl,?_,ht.1,by simp [DR,h.ll],h.legsLo⟩
      · simp only [DR,BQ _ _ hi,BQ _ _ hi']; exact hb.1
      · simp only [DR,BQ _ _ hi,BQ _ _ hi',h.unit]; omega
    have L2:SN (DR x a Rg.hi i) (DR r a Rg.hi i):=by
      refine⟨?_,rfl,?_,ht.2.2,by simp [DR,h.ll],h.legsHi⟩
      · simp only [DR,BQ _ _ hi,BQ _ _ hi']; exact hb.1.symm
      · simp only [DR,BQ _ _ hi,BQ _ _ hi',h.unit]; omega
    obtain⟨x',e1,e2,e3⟩:=Mg (p:=(DR r a Rg.lo i,DR r a Rg.hi i)) (p':=(DR x a Rg.lo i,DR x a Rg.hi i)) L1 L2 o1 o1 hs
    refine⟨x',List.mem_filterMap.2 ⟨_,List.mem_append_left _ (List.mem_map_of_mem (List.mem_range.2 hi')),e1⟩,e2,e3⟩
  · obtain⟨j,hj,hc⟩:=List.mem_filterMap.1 hP
    split at hc
    · rename_i hsp
      cases hc
      have hj:j<r.spares.length:=by simpa using hj
      have hj':j<x.spares.length:=by rw [h.spares]; exact hj
      have o1:=(MV Ec.low V j hj).t
      have L1:SN (I6 r Rg.lo j) (I6 x Rg.lo j):=⟨by simp [I6,h.spares],rfl,by simp [I6,h.spares],Int.le_refl _,by simp [I6,h.ll],h.legsLo⟩
      have L2:SN (I6 x Rg.hi j) (I6 r Rg.hi j):=⟨by simp [I6,h.spares],rfl,by simp [I6,h.spares],Int.le_refl _,by simp [I6,h.ll],h.legsHi⟩
      obtain⟨x',e1,e2,e3⟩:=Mg (p:=(I6 r Rg.lo j,I6 r Rg.hi j)) (p':=(I6 x Rg.lo j,I6 x Rg.hi j)) L1 L2 o1 o1 hs
      refine⟨x',List.mem_filterMap.2 ⟨_,List.mem_append_right _ (List.mem_filterMap.2 ⟨j,List.mem_range.2 hj',by rw [if_pos hsp]⟩),e1⟩,e2,e3⟩
    · cases hc
def RW (v w:List Int):Prop:=v.length=w.length∧∀ (s:Nat)(x y:Int),v[s]? = some x→w[s]? = some y→x≤y
theorem Qn {r x:Af} {a b:As} (hl:x.legs.length=r.legs.length) (h:∀ k<r.legs.length+1,WR x.fr x.to_ (CN x b k)≤WR r.fr r.to_ (CN r a k)):RW (BV x b) (BV r a):=by
  unfold BV
  refine⟨by simp [hl],fun s u v hu hv=>?_⟩
  rw [List.getElem?_map] at hu hv
  obtain⟨i,hi,rfl⟩:=Option.map_eq_some_iff.1 hu
  obtain⟨j,hj,rfl⟩:=Option.map_eq_some_iff.1 hv
  have hs:s<r.legs.length+1:=by
    rcases Nat.lt_or_ge s (r.legs.length+1) with h' | h'
    · exact h'
    · rw [List.getElem?_eq_none (by simpa using h')] at hj; cases hj
  rw [List.getElem?_range hs] at hj
  rw [hl,List.getElem?_range hs] at hi
  cases hi; cases hj
  exact h s hs
theorem RW.maxL {v w:List Int} (h:RW v w) (hv:v≠[]) (hw:w≠[]):maxL v≤maxL w:=(Ps hv).2 fun x hx=>by
  obtain⟨i,hi⟩:=List.mem_iff_getElem?.1 hx
  have hiv:i<v.length:=by
    rcases Nat.lt_or_ge i v.length with h' | h'
    · exact h'
    · rw [List.getElem?_eq_none h'] at hi; cases hi
  have hiw:i<w.length:=by rw [← h.1]; exact hiv
  have:=h.2 i x _ hi (List.getElem?_eq_getElem hiw)
  have:=(Ps hw).1 (Int.le_refl _) _ (List.getElem_mem hiw)
  omega
theorem RV.worsts {r x:Af} (h:RV r x) (V:Cf r) {a:As} (A:EI r a):RW (BV x a) (BV r a) :=
  Qn h.ll fun k _=>by
    rw [h.fr,h.to_]
    exact UA (h.dom V A k) (Int.le_refl _) V.looked.2.1 (Int.le_refl _)
theorem RV.maxW {r x:Af} (h:RV r x) (V:Cf r) {a:As} (A:EI r a):maxW x a≤maxW r a:=(h.worsts V A).maxL (GP _ _) (GP _ _)
end Go.Proofs.Ytokchpjijlebiaa
namespace Go.Proofs.Ytokchpjijlebiaa
open Go Go.RowKit
def Nd (st:Nat) (p:AX×Ax):List Int:=(List.range st).map fun(k:Nat)=>(Ft (st:Int) p k).getD (-1)
end Go.Proofs.Ytokchpjijlebiaa
namespace Go.Proofs.Ytokchpjijlebiaa
open Go Go.RowKit
def TP (r:Af) (x:Int):Bool:=decide (r.fr≤x∧x≤r.to_)
def DO (r:Af) (a:As) (t:Av) (s:Nat):List Int:=r.fr::r.to_::(((CA r a t).map (Nd (r.legs.length+1))).map fun p=>p[s]!).filter (TP r)
end Go.Proofs.Ytokchpjijlebiaa
namespace Go.Proofs.Ytokchpjijlebiaa
open Go Go.RowKit
structure ER (r:Af) (t:Av):Prop where
  tm:t.tm.length=r.buses.length
  tt:t.turns.length=r.buses.length
  legs:t.legs.length=r.buses.length+r.spares.length
  tms:∀ i<r.buses.length,(r.buses[i]!).tm.lo≤t.tm[i]!∧t.tm[i]!≤(r.buses[i]!).tm.hi
  tts:∀ i<r.buses.length,r.turn.lo≤t.turns[i]!∧t.turns[i]!≤r.turn.hi
  ll:∀ i<r.buses.length+r.spares.length,(t.legs[i]!).length=r.legs.length
  leg:∀ i<r.buses.length+r.spares.length,∀ (k:Nat)(x:Rg)(d:Int),r.legs[k]? = some x→(t.legs[i]!)[k]? = some d→x.lo≤d∧d≤x.hi
theorem ER.sized {r:Af} {t:Av} (h:ER r t) (V:Cf r) {a:As} (A:EI r a):O0 r a t:=by
  refine⟨by have:=V.nb; omega,by have:=V.ns; omega,A.holds,A.turns,A.spares,h.tm,h.tt,h.legs,fun x hx=>?_,V.unit,fun x hx=>?_⟩
  · obtain⟨i,hi,rfl⟩:=List.mem_iff_getElem.1 hx
    have:=A.hold i (by rw [← A.holds]; exact hi)
    rwa [BQ _ _ hi] at this
  · obtain⟨i,hi,rfl⟩:=List.mem_iff_getElem.1 hx
    have hib:i<r.buses.length:=by rw [← h.tm]; exact hi
    have:=h.tms i hib
    rw [BQ _ _ hi,BQ _ _ hib] at this
    have:=V.buses _ (List.getElem_mem hib)
    omega
theorem RX {r:Af} {t:Av} (h:ER r t) {i:Nat} (hi:i<r.buses.length+r.spares.length):∀ (k:Nat)(d d':Int),(r.legs.map Rg.lo)[k]? = some d→(t.legs[i]!)[k]? = some d'→d≤d':=fun k d d' h1 h2=>by
  rw [List.getElem?_map] at h1
  obtain⟨x,hx,rfl⟩:=Option.map_eq_some_iff.1 h1
  exact(h.leg i hi k x d' hx h2).1
theorem RY {r:Af} {t:Av} (h:ER r t) {i:Nat} (hi:i<r.buses.length+r.spares.length):∀ (k:Nat)(d d':Int),(t.legs[i]!)[k]? = some d→(r.legs.map Rg.hi)[k]? = some d'→d≤d':=fun k d d' h1 h2=>by
  rw [List.getElem?_map] at h2
  obtain⟨x,hx,rfl⟩:=Option.map_eq_some_iff.1 h2
  exact(h.leg i hi k x d hx h1).2
theorem ER.small {r:Af} {t:Av} (h:ER r t) (V:Cf r) {i:Nat} (hi:i<r.buses.length+r.spares.length):(t.legs[i]!).length≤20∧∀ d∈t.legs[i]!,0≤d∧d≤300:=by
  have hl:=h.ll i hi
  have:=V.nl
  refine⟨by omega,fun d hd=>?_⟩
  obtain⟨k,hk,rfl⟩:=List.mem_iff_getElem.1 hd
  have hkr:k<r.legs.length:=by omega
  have:=h.leg i hi k _ _ (List.getElem?_eq_getElem hkr) (List.getElem?_eq_getElem hk)
  have:=V.legs _ (List.getElem_mem hkr)
  omega
theorem ER.busT {r:Af} {t:Av} (h:ER r t) (V:Cf r) {a:As} (A:EI r a) {i:Nat} (hi:i<r.buses.length):F2 r (C1 r a t i)∧SN (DR r a Rg.lo i) (C1 r a t i)∧SN (C1 r a t i) (DR r a Rg.hi i):=by
  have o:=K3 Ec.low V A i hi
  have h1:=h.tms i hi
  have h2:=h.tts i hi
  have h3:=h.ll i (by omega)
  have h4:=h.small V (i:=i) (by omega)
  have hT:=V.turn
  have hb:=V.buses _ (List.getElem_mem hi)
  have hh:=A.hold i hi
  have hm:=Lv hh.1 hh.2 V.unit.1 V.unit.2
  rw [BQ _ _ hi] at h1
  refine⟨⟨⟨by simp only [C1]; omega,by simp only [C1]; omega,h4.1,h4.2⟩,h3,o.t,by simp only [C1]; omega,by simp only [C1]; omega,o.s0,o.s1⟩,⟨rfl,rfl,?_,h2.1,(by rw [show(C1 r a t i).2.legs=t.legs[i]! from rfl,h3]; simp [DR]),RX h (by omega)⟩,⟨rfl,rfl,?_,h2.2,(by rw [show(C1 r a t i).2.legs=t.legs[i]! from rfl,h3]; simp [DR]),RY h (by omega)⟩⟩ <;>
  · simp only [DR,C1,BQ _ _ hi]; omega
theorem ER.spT {r:Af} {t:Av} (h:ER r t) (V:Cf r) {j:Nat} (hj:j<r.spares.length):F2 r (⟨(r.spares[j]!).stop,(r.spares[j]!).tm,-1⟩,⟨t.legs[r.buses.length+j]!,0⟩)∧SN (I6 r Rg.lo j) (⟨(r.spares[j]!).stop,(r.spares[j]!).tm,-1⟩,⟨t.legs[r.buses.length+j]!,0⟩)∧SN (⟨(r.spares[j]!).stop,(r.spares[j]!).tm,-1⟩,⟨t.legs[r.buses.length+j]!,0⟩) (I6 r Rg.hi j):=by
  have o:=MV Ec.low V j hj
  have h3:=h.ll (r.buses.length+j) (by omega)
  have h4:=h.small V (i:=r.buses.length+j) (by omega)
  exact⟨⟨⟨Int.le_refl _,by simp,h4.1,h4.2⟩,h3,o.t,o.tm0,o.tm1,o.s0,o.s1⟩,⟨rfl,rfl,Int.le_refl _,Int.le_refl _,(by simp only []; rw [h3]; simp [I6]),RX h (by omega)⟩,⟨rfl,rfl,Int.le_refl _,Int.le_refl _,(by simp only []; rw [h3]; simp [I6]),RY h (by omega)⟩⟩
theorem L3 {r:Af} {a:As} {t:Av} {p:AX×Ax}:p∈CA r a t↔(∃ i<r.buses.length,p=C1 r a t i)∨∃ j<r.spares.length,a.spares[j]! = true∧p=(⟨(r.spares[j]!).stop,(r.spares[j]!).tm,-1⟩,⟨t.legs[r.buses.length+j]!,0⟩):=by
  unfold CA
  rw [List.mem_append,List.mem_map,List.mem_filterMap]
  constructor
  · rintro(⟨i,hi,rfl⟩ | ⟨j,hj,h⟩)
    · exact .inl ⟨i,List.mem_range.1 hi,rfl⟩
    · unfold Hd at h
      split at h
      · rename_i hs
        cases h
        exact .inr ⟨j,List.mem_range.1 hj,hs,rfl⟩
      · cases h
  · rintro(⟨i,hi,rfl⟩ | ⟨j,hj,hs,rfl⟩)
    · exact .inl ⟨i,List.mem_range.2 hi,rfl⟩
    · exact .inr ⟨j,List.mem_range.2 hj,by unfold Hd; rw [if_pos hs]⟩
theorem Rs {r:Af} {a:As} {s:Nat} {q:Rg}:q∈CN r a s↔(∃ i<r.buses.length,Ft ((r.legs.length:Int)+1) (DR r a Rg.lo i) s=some q.lo∧Ft ((r.legs.length:Int)+1) (DR r a Rg.hi i) s=some q.hi) ∨
    ∃ j<r.spares.length,a.spares[j]! = true∧Ft ((r.legs.length:Int)+1) (I6 r Rg.lo j) s=some q.lo∧Ft ((r.legs.length:Int)+1) (I6 r Rg.hi j) s=some q.hi:=by
  unfold CN Fb
  rw [List.mem_filterMap]
  constructor
  · rintro⟨P,hP,h⟩
    rw [FP] at h
    rcases List.mem_append.1 hP with hP | hP
    · obtain⟨i,hi,rfl⟩:=List.mem_map.1 hP
      exact .inl ⟨i,List.mem_range.1 hi,h⟩
    · obtain⟨j,hj,hc⟩:=List.mem_filterMap.1 hP
      split at hc
      · rename_i hs
        cases hc
        exact .inr ⟨j,List.mem_range.1 hj,hs,h⟩
      · cases hc
  · rintro(⟨i,hi,h⟩ | ⟨j,hj,hs,h⟩)
    · exact⟨_,List.mem_append_left _ (List.mem_map_of_mem (List.mem_range.2 hi)),FP.2 h⟩
    · exact⟨_,List.mem_append_right _ (List.mem_filterMap.2 ⟨j,List.mem_range.2 hj,by rw [if_pos hs]⟩),FP.2 h⟩
theorem ER.ok {r:Af} {t:Av} (h:ER r t) (V:Cf r) {a:As} (A:EI r a):∀ p∈CA r a t,F2 r p:=fun p hp=>by
  rcases L3.1 hp with⟨i,hi,rfl⟩ | ⟨j,hj,_,rfl⟩
  · exact(h.busT V A hi).1
  · exact(h.spT V hj).1
theorem ER.pass {r:Af} {t:Av} (h:ER r t) (V:Cf r) {a:As} (A:EI r a) {s:Nat} {q:Rg} (hq:q∈CN r a s):∃ p∈CA r a t,∃ x,Ft ((r.legs.length:Int)+1) p s=some x∧q.lo≤x∧x≤q.hi:=by
  rcases Rs.1 hq with⟨i,hi,h1,h2⟩ | ⟨j,hj,hs,h1,h2⟩
  · obtain⟨o,l1,l2⟩:=h.busT V A hi
    have o1:=(K3 Ec.low V A i hi).t
    rcases l1.at o1 s with⟨e,_⟩ | ⟨u,x,e1,e2,e3⟩
    · rw [e] at h1; cases h1
    · rcases l2.at o.t s with⟨e,_⟩ | ⟨x',v,f1,f2,f3⟩
      · rw [e] at e2; cases e2
      · rw [e1] at h1; cases h1
        rw [f2] at h2; cases h2
        rw [f1] at e2; cases e2
        exact⟨_,L3.2 (.inl ⟨i,hi,rfl⟩),_,f1,e3,f3⟩
  · obtain⟨o,l1,l2⟩:=h.spT V hj
    have o1:=(MV Ec.low V j hj).t
    rcases l1.at o1 s with⟨e,_⟩ | ⟨u,x,e1,e2,e3⟩
    · rw [e] at h1; cases h1
    · rcases l2.at o.t s with⟨e,_⟩ | ⟨x',v,f1,f2,f3⟩
      · rw [e] at e2; cases e2
      · rw [e1] at h1; cases h1
        rw [f2] at h2; cases h2
        rw [f1] at e2; cases e2
        exact⟨_,L3.2 (.inr ⟨j,hj,hs,rfl⟩),_,f1,e3,f3⟩
theorem GQ {r:Af} (V:Cf r) {a:As} {t:Av} {s:Nat} (hs:s<r.legs.length+1) {y:Int}:y∈DO r a t s↔y=r.fr∨y=r.to_∨(∃ p∈CA r a t,Ft ((r.legs.length:Int)+1) p s=some y)∧r.fr≤y∧y≤r.to_:=by
  have hl:=V.looked
  unfold DO
  rw [List.mem_cons,List.mem_cons,List.mem_filter,List.mem_map]
  refine or_congr Iff.rfl (or_congr Iff.rfl ?_)
  have key:∀ p:AX×Ax,(Nd (r.legs.length+1) p)[s]! = (Ft ((r.legs.length:Int)+1) p s).getD (-1):=fun p=>by
    rw [BQ _ _ (by unfold Nd; simp; omega)]
    unfold Nd
    rw [List.getElem_map,List.getElem_range]
    rfl
  constructor
  · rintro⟨⟨l,hl1,rfl⟩,hin⟩
    obtain⟨p,hp,rfl⟩:=List.mem_map.1 hl1
    unfold TP at hin
    have hin:=of_decide_eq_true hin
    rw [key] at hin ⊢
    cases he:Ft ((r.legs.length:Int)+1) p s with
    | none=>rw [he] at hin; simp at hin; omega
    | some x=>rw [he] at hin; exact⟨⟨p,hp,he⟩,hin⟩
  · rintro⟨⟨p,hp,he⟩,hin⟩
    exact⟨⟨_,List.mem_map_of_mem hp,by rw [key,he]; rfl⟩,by unfold TP; exact decide_eq_true hin⟩
end Go.Proofs.Ytokchpjijlebiaa
namespace Go.Proofs.Ytokchpjijlebiaa
open Go Go.RowKit
end Go.Proofs.Ytokchpjijlebiaa
namespace Go.Proofs.Ytokchpjijlebiaa
open Go Go.RowKit
end Go.Proofs.Ytokchpjijlebiaa
namespace Go.Proofs.Ytokchpjijlebiaa
open Go Go.RowKit
theorem OB:∀ {x y z:List Int},M5 x y=true→M5 y z=true→M5 x z=true
  | [],y,z,h,_=>by simp [M5] at h
  | x::xs,[],z,h,_=>by simp [M5] at h
  | x::xs,y::ys,[],_,h=>by simp [M5] at h
  | x::xs,y::ys,z::zs,h1,h2=>by
    rw [M5] at h1 h2 ⊢
    by_cases e:x=y
    · subst e
      rw [if_pos rfl] at h1
      by_cases e2:x=z
      · rw [if_pos e2] at h2 ⊢
        exact OB h1 h2
      · rw [if_neg e2] at h2 ⊢
        exact h2
    · rw [if_neg e] at h1
      have h3:=of_decide_eq_true h1
      by_cases e2:y=z
      · subst e2
        rw [if_neg e]; exact h1
      · rw [if_neg e2] at h2
        have h4:=of_decide_eq_true h2
        rw [if_neg (by omega)]
        exact decide_eq_true (by omega)
theorem IE (a b:As):CT a b=true↔HG a<HG b∨(HG a=HG b∧(I8 a<I8 b∨(I8 a=I8 b∧M5 (enc a) (enc b)=true))):=by
  unfold CT
  by_cases e:HG a=HG b
  · rw [if_pos e]
    by_cases e2:I8 a=I8 b
    · rw [if_pos e2]
      constructor
      · exact fun h=>.inr ⟨e,.inr ⟨e2,h⟩⟩
      · rintro(h | ⟨_,h | ⟨_,h⟩⟩)
        · omega
        · omega
        · exact h
    · rw [if_neg e2,decide_eq_true_eq]
      constructor
      · exact fun h=>.inr ⟨e,.inl h⟩
      · rintro(h | ⟨_,h | ⟨h,_⟩⟩)
        · omega
        · exact h
        · omega
  · rw [if_neg e,decide_eq_true_eq]
    constructor
    · exact fun h=>.inl h
    · rintro(h | ⟨h,_⟩)
      · exact h
      · omega
theorem Om {a b c:As} (h1:CT a b=true) (h2:CT b c=true):CT a c=true:=by
  rw [IE] at h1 h2 ⊢
  rcases h1 with h1 | ⟨e1,h1 | ⟨f1,h1⟩⟩ <;> rcases h2 with h2 | ⟨e2,h2 | ⟨f2,h2⟩⟩
  · exact .inl (by omega)
  · exact .inl (by omega)
  · exact .inl (by omega)
  · exact .inl (by omega)
  · exact .inr ⟨by omega,.inl (by omega)⟩
  · exact .inr ⟨by omega,.inl (by omega)⟩
  · exact .inl (by omega)
  · exact .inr ⟨by omega,.inl (by omega)⟩
  · exact .inr ⟨by omega,.inr ⟨by omega,OB h1 h2⟩⟩
theorem K6 (x:List Int) (hx:x.length≤100):∀ (n i:Nat),x.length<n+i→i≤x.length→Ed n x x (i:Int)=some (Ex.go ())
  | 0,i,h,hi=>by omega
  | n+1,i,h,hi=>by
    rw [Ed,BB]
    by_cases c:i<x.length
    · simp only [c,decide_true,cond_true]
      rw [Bf _ _ c]
      simp only [Option.bind_some,bne_self_eq_false,cond_false]
      rw [Du i (by omega)]
      exact K6 x hx n (i+1) (by omega) (by omega)
    · simp only [c,decide_false,cond_false]
theorem L4 (n:Nat) (x:List Int) (hx:x.length<n) (h:x.length≤100):FQ n x x=some true:=by
  have e:=K6 x h n 0 (by omega) (by omega)
  rw [Int.natCast_zero] at e
  unfold FQ
  rw [bne_self_eq_false,cond_false,e]
  rfl
theorem K7 (a:As) (hx:a.spares.length≤100):∀ (n i:Nat),a.spares.length<n+i→i≤a.spares.length→Ee n a a (i:Int)=some (Ex.go ())
  | 0,i,h,hi=>by omega
  | n+1,i,h,hi=>by
    rw [Ee,BB]
    by_cases c:i<a.spares.length
    · simp only [c,decide_true,cond_true]
      rw [Bf _ _ c]
      simp only [Option.bind_some,beq_self_eq_true,Bool.not_true,cond_false]
      rw [Du i (by omega)]
      exact K7 a hx n (i+1) (by omega) (by omega)
    · simp only [c,decide_false,cond_false]
theorem On (n:Nat) (a:As) (hn:30≤n) (h1:a.holds.length≤20) (h2:a.turns.length≤20) (h3:a.spares.length≤20):Hw n a a=some true:=by
  have e:=K7 a (by omega) n 0 (by omega) (by omega)
  rw [Int.natCast_zero] at e
  unfold Hw
  rw [L4 n _ (by omega) (by omega),Option.bind_some,L4 n a.turns (by omega) (by omega),Option.bind_some,bne_self_eq_false,e]
  rfl
def UB (r:Af) (l:List As) (i:Nat) (v w:Int):Prop :=
  ((i=0∧v=-1)∨((∀ k (h:k<l.length),k<i→v≤maxW r l[k])∧∃ k,∃ h:k<l.length,k<i∧v=maxW r l[k])) ∧
  ((w=-1∧∀ k (h:k<l.length),k<i→r.gap<maxW r l[k])∨∃ b,∃ h:b<l.length,b<i∧w=(b:Int)∧maxW r l[b]≤r.gap∧∀ k (h:k<l.length),k<i→maxW r l[k]≤r.gap→CT l[k] l[b]=false)
theorem UB.step {r:Af} {l:List As} {i:Nat} {v w v' w':Int} (V:Cf r) (hi:i<l.length) (h:UB r l i v w)
    (hv:v' = if v<0∨maxW r l[i]<v then maxW r l[i] else v)
    (hw:(r.gap<maxW r l[i]∧w' = w)∨(maxW r l[i]≤r.gap∧((w<0∧w' = (i:Int))∨∃ b,∃ hb:b<l.length,w=(b:Int)∧((CT l[i] l[b]=true∧w' = (i:Int))∨(CT l[i] l[b]=false∧w' = w))))):UB r l (i+1) v' w':=by
  obtain⟨h1,h2⟩:=h
  constructor
  · right
    have hm:=(Nc V l[i]).1
    rcases h1 with⟨h0,h1⟩ | ⟨h1,k0,hk0,hk1,hk2⟩
    · rw [if_pos (.inl (by omega))] at hv
      refine⟨fun k hk hk'=>?_,i,hi,by omega,hv⟩
      have:k=i:=by omega
      subst this
      omega
    · have hm2:=(Nc V l[k0]).1
      by_cases c:v<0∨maxW r l[i]<v
      · rw [if_pos c] at hv
        refine⟨fun k hk hk'=>?_,i,hi,by omega,hv⟩
        by_cases e:k=i
        · subst e; omega
        · have:=h1 k hk (by omega); omega
      · rw [if_neg c] at hv
        refine⟨fun k hk hk'=>?_,k0,hk0,by omega,by omega⟩
        by_cases e:k=i
        · subst e; omega
        · have:=h1 k hk (by omega); omega
  · rcases hw with⟨hg,hw⟩ | ⟨hg,hw⟩
    · rcases h2 with⟨h0,h2⟩ | ⟨b,hb,hbi,hbw,hbk,hbb⟩
      · refine .inl ⟨by omega,fun k hk hk'=>?_⟩
        by_cases e:k=i
        · subst e; exact hg
        · exact h2 k hk (by omega)
      · refine .inr ⟨b,hb,by omega,by omega,hbk,fun k hk hk' hk2=>?_⟩
        by_cases e:k=i
        · subst e; omega
        · exact hbb k hk (by omega) hk2
    · rcases hw with⟨hw0,hw⟩ | ⟨b',hb',hbw',hw⟩
      · refine .inr ⟨i,hi,by omega,hw,hg,fun k hk hk' hk2=>?_⟩
        by_cases e:k=i
        · subst e
          cases hc:CT l[k] l[k] with
          | false=>rfl
          | true =>
            rw [IE,HH] at hc
            rcases hc with hc | ⟨_,hc | ⟨_,hc⟩⟩
            · omega
            · omega
            · cases hc
        · rcases h2 with⟨h0,h2⟩ | ⟨b,hb,hbi,hbw,_⟩
          · have:=h2 k hk (by omega); omega
          · omega
      · rcases h2 with⟨h0,h2⟩ | ⟨b,hb,hbi,hbw,hbk,hbb⟩
        · omega
        · have:b=b':=by omega
          subst this
          rcases hw with⟨hc,hw⟩ | ⟨hc,hw⟩
          · refine .inr ⟨i,hi,by omega,hw,hg,fun k hk hk' hk2=>?_⟩
            cases hk3:CT l[k] l[i] with
            | false=>rfl
            | true =>
              by_cases e:k=i
              · subst e
                rw [IE,HH] at hk3
                rcases hk3 with hk3 | ⟨_,hk3 | ⟨_,hk3⟩⟩
                · omega
                · omega
                · cases hk3
              · have:=hbb k hk (by omega) hk2
                rw [Om hk3 hc] at this
                exact this
          · refine .inr ⟨b,hb,by omega,by omega,hbk,fun k hk hk' hk2=>?_⟩
            by_cases e:k=i
            · subst e; exact hc
            · exact hbb k hk (by omega) hk2
theorem TX {r:Af} {a b:As} (V:Cf r) (ha:D4 r a=true) (hb:D4 r b=true) (h:enc a=enc b):a=b:=by
  rw [← (Jz V ha).2,← (Jz V hb).2,h]
end Go.Proofs.Ytokchpjijlebiaa
namespace Go.Proofs.Ytokchpjijlebiaa
open Go Go.RowKit
theorem Nf:∀ {x y:List Int},x.Pairwise (· < ·)→y.Pairwise (· < ·)→(∀ v,v∈x↔v∈y)→x=y
  | [],[],_,_,_=>rfl
  | [],b::y,_,_,h=>by have:=(h b).2 (by simp); simp at this
  | a::x,[],_,_,h=>by have:=(h a).1 (by simp); simp at this
  | a::x,b::y,hx,hy,h=>by
    rw [List.pairwise_cons] at hx hy
    have hab:a=b:=by
      have h1:=(h a).1 (by simp)
      have h2:=(h b).2 (by simp)
      rcases List.mem_cons.1 h1 with h1 | h1
      · exact h1
      · rcases List.mem_cons.1 h2 with h2 | h2
        · exact h2.symm
        · have:=hx.1 b h2
          have:=hy.1 a h1
          omega
    subst hab
    rw [Nf hx.2 hy.2 fun v=>?_]
    constructor
    · intro hv
      rcases List.mem_cons.1 ((h v).1 (List.mem_cons_of_mem _ hv)) with rfl | h1
      · have:=hx.1 _ hv; omega
      · exact h1
    · intro hv
      rcases List.mem_cons.1 ((h v).2 (List.mem_cons_of_mem _ hv)) with rfl | h1
      · have:=hy.1 _ hv; omega
      · exact h1
theorem Qo {zs:List Int} {y:Int}:y∈Lib.compact zs↔y∈zs:=by
  unfold Lib.compact Lib.compactUpTo
  rw [List.mem_map]
  constructor
  · rintro⟨j,hj,rfl⟩
    rw [List.mem_filter,List.mem_range] at hj
    have:zs.toArray[j]! = zs[j]:=getElem!_pos zs.toArray j (by simpa using hj.1)
    rw [this]
    exact List.getElem_mem _
  · intro hy
    obtain⟨j,hj,he⟩:=List.mem_iff_getElem.1 hy
    -- the first place
    have key:∀ k,(∃ j,∃ h:j<zs.length,zs[j]=y∧j<k)→∃ j,∃ h:j<zs.length,zs[j]=y∧Lib.keeps zs.toArray j=true:=by
      intro k
      induction k with
      | zero=>rintro⟨_,_,_,h⟩; omega
      | succ k ih =>
        rintro⟨j,hj,he,hjk⟩
        by_cases h0:Lib.keeps zs.toArray j=true
        · exact⟨j,hj,he,h0⟩
        · unfold Lib.keeps at h0
          simp only [decide_eq_true_eq,not_or,ne_eq,Decidable.not_not] at h0
          obtain⟨h1,h2⟩:=h0
          have e1:zs.toArray[j]! = zs[j]:=getElem!_pos zs.toArray j (by simpa using hj)
          have e2:zs.toArray[j-1]! = zs[j-1]:=getElem!_pos zs.toArray (j-1) (by simp; omega)
          rw [e1,e2] at h2
          exact ih ⟨j-1,by omega,by rw [← h2]; exact he,by omega⟩
    obtain⟨j,hj,he,hk⟩:=key (j+1) ⟨j,hj,he,by omega⟩
    exact⟨j,List.mem_filter.2 ⟨List.mem_range.2 hj,hk⟩,by rw [← he]; exact getElem!_pos zs.toArray j (by simpa using hj)⟩
theorem Ng {zs:List Int} (hs:zs.Pairwise (·≤·)):(Lib.compact zs).Pairwise (· < ·):=by
  unfold Lib.compact Lib.compactUpTo
  rw [List.pairwise_map]
  have h1:((List.range zs.length).filter (Lib.keeps zs.toArray)).Pairwise (· < ·):=List.Pairwise.sublist List.filter_sublist List.pairwise_lt_range
  refine h1.imp_of_mem fun {i j} hi hj hij=>?_
  rw [List.mem_filter,List.mem_range] at hi hj
  have e1:zs.toArray[i]! = zs[i]:=getElem!_pos zs.toArray i (by simpa using hi.1)
  have e2:zs.toArray[j]! = zs[j]:=getElem!_pos zs.toArray j (by simpa using hj.1)
  have e3:zs.toArray[j-1]! = zs[j-1]:=getElem!_pos zs.toArray (j-1) (by simp; omega)
  have hk:=hj.2
  unfold Lib.keeps at hk
  simp only [decide_eq_true_eq] at hk
  rcases hk with hk | hk
  · omega
  rw [e2,e3] at hk
  rw [e1,e2]
  have a1:zs[i]≤zs[j-1]:=by
    rcases Nat.lt_or_ge i (j-1) with h | h
    · exact List.pairwise_iff_getElem.1 hs i (j-1) hi.1 (by omega) h
    · have:i=j-1:=by omega
      subst this; exact Int.le_refl _
  have a2:zs[j-1]≤zs[j]:=List.pairwise_iff_getElem.1 hs (j-1) j (by omega) hj.1 (by omega)
  omega
theorem Pu (l:List Int):(DL l).Pairwise (·≤·):=by
  have:=List.pairwise_mergeSort (le:=fun x y:Int=>decide (x≤y)) (fun a b c h1 h2=>by simp at *; omega) (fun a b=>by simp; omega) l
  unfold DL
  exact this.imp fun h=>by simpa using h
theorem S5 {l:List Int} {y:Int}:y∈DL l↔y∈l:=List.mem_mergeSort
def Pv (ms:List (List Int)) (P:Nat→Int→Prop) (B:Nat):Prop:=∀ k l,ms[k]? = some l→l.length≤B∧∀ y,y∈l↔P k y
def gM (n:Nat) (r:Af) (s:List (List Int)) (a b:Int):Option (List (List Int)):=((A4 n r b).bind fun x63 =>
    (bif x63 then
    ((Cr s a).bind fun x68 =>
    ((IU x68 ([b]:List Int)).bind fun x72 =>
    ((Cr s a).bind fun x73 =>
    ((upd s a x72).bind fun u_376 =>
    some u_376))))
    else
    some s))
theorem S6 (n:Nat) (r:Af) (x:Int):A4 n r x=some (TP r x):=by
  unfold A4
  rw [Gv]; rfl
theorem UZ (n:Nat) (r:Af) (ms:List (List Int)) (s:Nat) (t:Int) (P:Nat→Int→Prop) (B:Nat) (hs:s<ms.length) (hI:Pv ms P B) (hB:B<1000000):∃ ms',gM n r ms (s:Int) t=some ms'∧ms'.length=ms.length∧Pv ms' (fun k y=>P k y∨(k=s∧y=t∧TP r y=true)) (B+1):=by
  unfold gM
  rw [S6,Option.bind_some]
  cases hin:TP r t with
  | false =>
    refine⟨ms,rfl,rfl,fun k l hk=>?_⟩
    obtain⟨h1,h2⟩:=hI k l hk
    refine⟨by omega,fun y=>?_⟩
    rw [h2]
    constructor
    · exact .inl
    · rintro(h | ⟨_,rfl,h⟩)
      · exact h
      · rw [hin] at h; cases h
  | true =>
    have h0:=hI s _ (List.getElem?_eq_getElem hs)
    rw [cond_true,Bf _ _ hs,Option.bind_some,DI _ _ (by simp; omega),Option.bind_some,Option.bind_some,Oj _ _ _ hs,Option.bind_some]
    refine⟨_,rfl,by simp,fun k l hk=>?_⟩
    by_cases hks:s=k
    · subst hks
      rw [List.getElem?_set_self hs] at hk
      cases hk
      refine⟨by simp; omega,fun y=>?_⟩
      rw [List.mem_append,h0.2,List.mem_singleton]
      constructor
      · rintro(h | rfl)
        · exact .inl h
        · exact .inr ⟨rfl,rfl,hin⟩
      · rintro(h | ⟨_,h,_⟩)
        · exact .inl h
        · exact .inr h
    · rw [List.getElem?_set_ne hks] at hk
      obtain⟨h1,h2⟩:=hI k l hk
      refine⟨by omega,fun y=>?_⟩
      rw [h2]
      constructor
      · exact .inl
      · rintro(h | ⟨h,_⟩)
        · exact h
        · exact absurd h.symm hks
theorem Pv.imp {ms:List (List Int)} {P Q:Nat→Int→Prop} {B C:Nat} (h:Pv ms P B) (hPQ:∀ k y,P k y↔Q k y) (hB:B≤C):Pv ms Q C:=fun k l hk=>⟨Nat.le_trans (h k l hk).1 hB,fun y=>((h k l hk).2 y).trans (hPQ k y)⟩
theorem Nh (n:Nat) (r:Af):∀ (pl:List (Int×Int))(ms:List (List Int))(P:Nat→Int→Prop)(B:Nat),(∀ p∈pl,0≤p.1∧p.1<(ms.length:Int))→Pv ms P B→B+pl.length<1000000 →
    ∃ ms',pl.foldlM (fun x p=>gM n r x p.1 p.2) ms=some ms'∧ms'.length=ms.length∧Pv ms' (fun k y=>P k y∨(((k:Int),y)∈pl∧TP r y=true)) (B+pl.length)
  | [],ms,P,B,_,hI,_=>⟨ms,rfl,rfl,hI.imp (fun k y=>by simp) (by simp)⟩
  | p::pl,ms,P,B,hp,hI,hB=>by
    have h1:=hp p (by simp)
    simp only [List.length_cons] at hB
    obtain⟨m1,e1,l1,I1⟩:=UZ n r ms p.1.toNat p.2 P B (by omega) hI (by omega)
    rw [show((p.1.toNat:Nat):Int)=p.1 by omega] at e1
    obtain⟨m2,e2,l2,I2⟩:=Nh n r pl m1 _ _ (fun q hq=>by rw [l1]; exact hp q (List.mem_cons_of_mem _ hq)) I1 (by omega)
    refine⟨m2,?_,by omega,I2.imp (fun k y=>?_) (by simp; omega)⟩
    · rw [List.foldlM_cons,e1]; exact e2
    · rw [List.mem_cons]
      constructor
      · rintro((h | ⟨h,h2,h3⟩) | ⟨h,h2⟩)
        · exact .inl h
        · refine .inr ⟨.inl ?_,h3⟩
          rw [h2,h]
          exact Prod.ext (by simp only []; omega) rfl
        · exact .inr ⟨.inr h,h2⟩
      · rintro(h | ⟨h | h,h2⟩)
        · exact .inl (.inl h)
        · refine .inl (.inr ⟨?_,?_,h2⟩)
          · have:=congrArg Prod.fst h; simp only [] at this; omega
          · exact congrArg Prod.snd h
        · exact .inr ⟨h,h2⟩
theorem OC (w:AL) (x18:List (List Int)) (hb:x18.length≤50):∀ (n i:Nat)(x:List (List Int)),x18.length<n+i→i≤x18.length→x.length=x18.length→(∀ k,k<i→x[k]? = some [w.route.fr,w.route.to_])→Bm n w x18 x (i:Int)=some (List.replicate x18.length [w.route.fr,w.route.to_])
  | 0,i,x,h,hi,_,_=>by omega
  | n+1,i,x,h,hi,hl,hk=>by
    rw [Bm,BB]
    by_cases hx:i<x18.length
    · simp only [hx,decide_true,cond_true]
      rw [Bf _ _ (by omega),Option.bind_some,Oj _ _ _ (by omega),Option.bind_some,Du i (by omega)]
      refine OC w x18 hb n (i+1) _ (by omega) (by omega) (by simp [hl]) fun k hk'=>?_
      rw [List.getElem?_set]
      by_cases hki:i=k
      · subst hki; simp; omega
      · rw [if_neg hki]; exact hk k (by omega)
    · simp only [hx,decide_false,cond_false,Option.some.injEq]
      apply List.ext_getElem?
      intro k
      rw [List.getElem?_replicate]
      split
      · exact hk k (by omega)
      · exact List.getElem?_eq_none (by omega)
theorem J1 {st turned turn:Int} {legs:List Int}:∀ (n:Nat)(tm s:Int),(Bw st turned turn legs n tm s).length≤n
  | 0,_,_=>by simp [Bw]
  | n+1,tm,s=>by
    rw [Bw]
    split
    · rw [List.length_cons]
      split
      · have:=J1 (st:=st) (turned:=turned) (turn:=turn) (legs:=legs) n (tm+turn) (st-1-s); omega
      · split
        · rename_i d _
          have:=J1 (st:=st) (turned:=turned) (turn:=turn) (legs:=legs) n (tm+d) (s+1); omega
        · simp
    · simp
theorem S7 {r:Af} {p:AX×Ax} (o:F2 r p) {n:Nat} (hn:30≤n) (hl:r.legs.length≤20) (k:Nat) (y:Int):((k:Int),y)∈Bw ((r.legs.length:Int)+1) p.1.turned p.2.turn p.2.legs n p.1.tm p.1.stop↔Ft ((r.legs.length:Int)+1) p k=some y:=by
  have h0:=o.s0
  rw [G1 o.t n 40 _ _ (by omega) (by omega)]
  unfold Ft
  constructor
  · intro h
    obtain⟨j,hj⟩:=List.mem_iff_getElem?.1 h
    exact N8 (FO o.t 40 _ _) hj
  · exact Oz
theorem OD (w:AL) (l:List (AX×Ax)) (hl:w.route.legs.length≤20) (hok:∀ p∈l,F2 w.route p) (h20:l.length≤20):∀ (n i:Nat)(ms:List (List Int))(P:Nat→Int→Prop)(B:Nat),l.length+30<n+i→n≤1000→i≤l.length→ms.length=w.route.legs.length+1→Pv ms P B→B≤1000*i+10 →
    ∃ ms',Bn n w (l.map Prod.fst,l.map Prod.snd) ms (i:Int)=some ms'∧ms'.length=w.route.legs.length+1∧Pv ms' (fun k y=>P k y∨((∃ p∈l.drop i,Ft ((w.route.legs.length:Int)+1) p k=some y)∧TP w.route y=true)) 30000
  | 0,i,ms,P,B,h,_,hi,_,_,_=>by omega
  | n+1,i,ms,P,B,h,hn,hi,hm,hI,hB=>by
    rw [Bn]
    simp only []
    rw [BB,List.length_map]
    by_cases hx:i<l.length
    · have o:=hok _ (List.getElem_mem hx)
      simp only [hx,decide_true,cond_true]
      rw [Bf _ i (by simpa using hx),Bf _ i (by simpa using hx)]
      simp only [Option.bind_some,List.getElem_map,BF]
      obtain⟨m1,e1,l1,I1⟩:=Nh n w.route (Bw ((w.route.legs.length:Int)+1) l[i].1.turned l[i].2.turn l[i].2.legs n l[i].1.tm l[i].1.stop) ms P B (fun p hp=>by
        have:=Fa o.t n _ _ p hp
        rw [hm]; constructor <;> omega) hI (by have:=J1 (st:=(w.route.legs.length:Int)+1) (turned:=l[i].1.turned) (turn:=l[i].2.turn) (legs:=l[i].2.legs) n l[i].1.tm l[i].1.stop; omega)
      have e2:=Lu n (fun s a b=>(gM n w.route s a b).bind fun s1=>some (s1,true)) (gM n w.route) (fun s a b=>He (gM n w.route s a b)) l[i].1 w.route l[i].2 ms hl o.q o.len o.t o.tm0 o.tm1 (by omega) (by omega) o.s0 o.s1
      rw [e1] at e2
      have hpl:=J1 (st:=(w.route.legs.length:Int)+1) (turned:=l[i].1.turned) (turn:=l[i].2.turn) (legs:=l[i].2.legs) n l[i].1.tm l[i].1.stop
      obtain⟨m2,f1,f2,f3⟩:=OD w l hl hok h20 n (i+1) m1 _ _ (by omega) (by omega) (by omega) (by rw [l1,hm]) I1 (by omega)
      refine⟨m2,?_,f2,f3.imp (fun k y=>?_) (Nat.le_refl _)⟩
      · show((AO n (fun s a b=>(gM n w.route s a b).bind fun s1=>some (s1,true)) ms l[i].1 w.route l[i].2).bind _)=_
        rw [e2,Option.bind_some,Du i (by omega)]
        exact f1
      · rw [BA hx,S7 o (by omega) hl]
        constructor
        · rintro((h | ⟨h,h2⟩) | ⟨⟨p,hp,h⟩,h2⟩)
          · exact .inl h
          · exact .inr ⟨⟨_,List.mem_cons_self,h⟩,h2⟩
          · exact .inr ⟨⟨p,List.mem_cons_of_mem _ hp,h⟩,h2⟩
        · rintro(h | ⟨⟨p,hp,h⟩,h2⟩)
          · exact .inl (.inl h)
          · rcases List.mem_cons.1 hp with rfl | hp
            · exact .inl (.inr ⟨h,h2⟩)
            · exact .inr ⟨⟨p,hp,h⟩,h2⟩
    · have hi':i=l.length:=by omega
      have hd:l.drop i=[]:=List.drop_eq_nil_of_le (by omega)
      simp only [hx,decide_false,cond_false]
      exact⟨ms,rfl,hm,hI.imp (fun k y=>by rw [hd]; simp) (by omega)⟩
theorem OE (o:List (List Int)) (hb:o.length≤50):∀ (n i:Nat)(x:List (List Int)),o.length<n+i→i≤o.length→x.length=o.length→(∀ (k:Nat) l,o[k]? = some l→l.length≤1000000∧x[k]? = some (if k<i then Lib.compact (DL l) else l)) →
    Bo n o x (i:Int)=some (o.map fun l=>Lib.compact (DL l))
  | 0,i,x,h,hi,_,_=>by omega
  | n+1,i,x,h,hi,hl,hk=>by
    rw [Bo,BB]
    by_cases hx:i<o.length
    · simp only [hx,decide_true,cond_true]
      obtain⟨h1,h2⟩:=hk i _ (List.getElem?_eq_getElem hx)
      rw [if_neg (by omega)] at h2
      have hix:i<x.length:=by omega
      have e0:Cr x (i:Int)=some o[i]:=by rw [Rl,h2]
      have e1:QJ o[i]=some (DL o[i]):=by unfold QJ; rw [if_pos (by omega)]
      have e2:QL (DL o[i])=some (Lib.compact (DL o[i])):=by unfold QL; rw [if_pos (by rw [JB]; omega)]
      have e3:Cr (x.set i (DL o[i])) (i:Int)=some (DL o[i]):=by rw [Rl,List.getElem?_set_self hix]
      rw [e0,Option.bind_some,e1,Option.bind_some,Oj _ _ _ hix,Option.bind_some,e3,Option.bind_some,e2,Option.bind_some,Option.bind_some,Oj _ _ _ (by simpa using hix),Option.bind_some,List.set_set,Du i (by omega)]
      refine OE o hb n (i+1) _ (by omega) (by omega) (by simp [hl]) fun k l hkl=>?_
      obtain⟨g1,g2⟩:=hk k l hkl
      refine⟨g1,?_⟩
      rw [List.getElem?_set]
      by_cases hki:i=k
      · subst hki
        have:o[i]=l:=by rw [List.getElem?_eq_getElem hx] at hkl; exact Option.some.inj hkl
        rw [if_pos rfl,if_pos hix,if_pos (by omega),this]
      · rw [if_neg hki,g2]
        by_cases hlt:k<i
        · rw [if_pos hlt,if_pos (by omega)]
        · rw [if_neg hlt,if_neg (by omega)]
    · simp only [hx,decide_false,cond_false,Option.some.injEq]
      apply List.ext_getElem?
      intro k
      rw [List.getElem?_map]
      cases hok:o[k]? with
      | none=>rw [List.getElem?_eq_none (by have:=List.getElem?_eq_none_iff.1 hok; omega)]; rfl
      | some l =>
        rw [(hk k l hok).2,if_pos (by have:=(List.getElem?_eq_some_iff.1 hok).1; omega)]; rfl
theorem Tb (n:Nat) (r:Af) (a:As) (t:Av) (V:Cf r) (S:O0 r a t) (hok:∀ p∈CA r a t,F2 r p) (hn:90≤n) (hn2:n≤900) :
    ∃ ml,C6 n ⟨r,a⟩ t=some ml∧ml.length=r.legs.length+1∧∀ (s:Nat) l,ml[s]? = some l→l.Pairwise (· < ·)∧(∀ y,y∈l↔y∈DO r a t s)∧l.length≤30000:=by
  have:=V.nl
  have:=S.nb
  have:=S.ns
  have hlt:(CA r a t).length≤r.buses.length+r.spares.length:=by
    unfold CA
    rw [List.length_append,List.length_map,List.length_range]
    have:=List.length_filterMap_le (Hd r a t) (List.range r.spares.length)
    rw [List.length_range] at this
    omega
  unfold C6
  simp only []
  rw [Dv n r (by omega),Option.bind_some]
  have eM:mk ((r.legs.length:Int)+1) ([]:List Int)=some (List.replicate (r.legs.length+1) []):=by
    rw [show((r.legs.length:Int)+1)=((r.legs.length+1:Nat):Int) by omega]; exact Vn _ _ (by omega)
  rw [eM,Option.bind_some]
  have e1:=OC ⟨r,a⟩ (List.replicate (r.legs.length+1) []) (by simp; omega) n 0 (List.replicate (r.legs.length+1) []) (by simp; omega) (by omega) rfl (fun k hk=>by omega)
  rw [Int.natCast_zero,List.length_replicate] at e1
  rw [e1,Option.bind_some,MO n r a t S (by omega),Option.bind_some]
  obtain⟨m2,f1,f2,f3⟩:=OD ⟨r,a⟩ (CA r a t) (by simp only; omega) hok (by omega) n 0 (List.replicate (r.legs.length+1) [r.fr,r.to_]) (fun _ y=>y=r.fr∨y=r.to_) 2 (by omega) (by omega) (by omega) (by simp) (fun k l hk=>by
    rw [List.getElem?_replicate] at hk
    split at hk
    · cases hk; exact⟨Nat.le_refl _,fun y=>by simp⟩
    · cases hk) (by omega)
  rw [Int.natCast_zero] at f1
  rw [f1,Option.bind_some]
  have e3:=OE m2 (by rw [f2]; simp only; omega) n 0 m2 (by rw [f2]; simp only; omega) (by omega) rfl (fun k l hk=>⟨by have:=(f3 k l hk).1; omega,by rw [if_neg (by omega)]; exact hk⟩)
  rw [Int.natCast_zero] at e3
  rw [e3,Option.bind_some]
  refine⟨_,rfl,by rw [List.length_map,f2],fun s l hl=>?_⟩
  rw [List.getElem?_map] at hl
  obtain⟨l0,h0,rfl⟩:=Option.map_eq_some_iff.1 hl
  obtain⟨g1,g2⟩:=f3 s l0 h0
  have hs:s<r.legs.length+1:=by have:=(List.getElem?_eq_some_iff.1 h0).1; rw [f2] at this; exact this
  refine⟨Ng (Pu l0),fun y=>?_,Nat.le_trans (Mp _) (by rw [JB]; exact g1)⟩
  rw [Qo,S5,g2,GQ V hs,List.drop_zero]
  unfold TP
  constructor
  · rintro((h | h) | ⟨h,h2⟩)
    · exact .inl h
    · exact .inr (.inl h)
    · exact .inr (.inr ⟨h,of_decide_eq_true h2⟩)
  · rintro(h | h | ⟨h,h2⟩)
    · exact .inl (.inl h)
    · exact .inl (.inr h)
    · exact .inr ⟨h,decide_eq_true h2⟩
end Go.Proofs.Ytokchpjijlebiaa
namespace Go.Proofs.Ytokchpjijlebiaa
open Go Go.RowKit
def Qp (r:Af) (t:Av) (i:Nat):Bool:=decide ((r.buses[i]!).tm.lo≤t.tm[i]!∧t.tm[i]!≤(r.buses[i]!).tm.hi) && decide (r.turn.lo≤t.turns[i]!∧t.turns[i]!≤r.turn.hi)
def Qq (r:Af) (x:List Int):Bool:=decide (x.length=r.legs.length) && (List.range r.legs.length).all fun k=>decide ((r.legs[k]!).lo≤x[k]!∧x[k]!≤(r.legs[k]!).hi)
def Ni (r:Af) (t:Av):Bool:=decide (t.tm.length=r.buses.length∧t.turns.length=r.buses.length∧t.legs.length=r.buses.length+r.spares.length) && ((List.range r.buses.length).all (Qp r t) && t.legs.all (Qq r))
theorem Tc (n:Nat) (x:Rg) (y:Int):Cg n x y=some (decide (x.lo≤y∧y≤x.hi)):=by
  unfold Cg
  rw [Gv]; rfl
theorem OF (r:Af) (t:Av) (hb:r.buses.length≤20) (h1:t.tm.length=r.buses.length) (h2:t.turns.length=r.buses.length):∀ (n i:Nat),r.buses.length<n+i→i≤r.buses.length→Bs n r t (i:Int)=some (if ((List.range r.buses.length).drop i).all (Qp r t) then Ex.go () else Ex.ret false)
  | 0,i,h,hi=>by omega
  | n+1,i,h,hi=>by
    rw [Bs,BB]
    by_cases hx:i<r.buses.length
    · have q1:i<t.tm.length:=by omega
      have q2:i<t.turns.length:=by omega
      have q6:i<(List.range r.buses.length).length:=by simpa using hx
      simp only [hx,decide_true,cond_true,Bf _ _ hx,Bf _ _ q1,Bf _ _ q2,Option.bind_some,Tc]
      rw [BA q6,List.all_cons,List.getElem_range,Du i (by omega),OF r t hb h1 h2 n (i+1) (by omega) (by omega)]
      unfold Qp
      rw [BQ _ _ hx,BQ _ _ q1,BQ _ _ q2]
      cases decide ((r.buses[i]).tm.lo≤t.tm[i]∧t.tm[i]≤(r.buses[i]).tm.hi) with
      | false=>rfl
      | true =>
        simp only [Bool.not_true,cond_false,Bool.true_and]
        cases decide (r.turn.lo≤t.turns[i]∧t.turns[i]≤r.turn.hi) with
        | false=>rfl
        | true=>rfl
    · have:i=r.buses.length:=by omega
      have hd:(List.range r.buses.length).drop r.buses.length=[]:=List.drop_eq_nil_of_le (by simp)
      simp [this,hd]
theorem OG (r:Af) (x:List Int) (hl:r.legs.length≤20) (hx0:x.length=r.legs.length):∀ (n i:Nat),r.legs.length<n+i→i≤r.legs.length→Bt n r x (i:Int)=some (if ((List.range r.legs.length).drop i).all (fun k=>decide ((r.legs[k]!).lo≤x[k]!∧x[k]!≤(r.legs[k]!).hi)) then Ex.go () else Ex.ret false)
  | 0,i,h,hi=>by omega
  | n+1,i,h,hi=>by
    rw [Bt,BB]
    by_cases hx:i<x.length
    · have q1:i<r.legs.length:=by omega
      have q6:i<(List.range r.legs.length).length:=by simpa using q1
      simp only [hx,decide_true,cond_true,Bf _ _ hx,Bf _ _ q1,Option.bind_some,Tc]
      rw [BA q6,List.all_cons,List.getElem_range,Du i (by omega),OG r x hl hx0 n (i+1) (by omega) (by omega),BQ _ _ hx,BQ _ _ q1]
      cases decide ((r.legs[i]).lo≤x[i]∧x[i]≤(r.legs[i]).hi) <;> rfl
    · have:i=r.legs.length:=by omega
      have hd:(List.range r.legs.length).drop r.legs.length=[]:=List.drop_eq_nil_of_le (by simp)
      have hx' : ¬ r.legs.length<x.length:=by omega
      simp [this,hd,hx']
theorem OH (r:Af) (t:Av) (hl:r.legs.length≤20) (hb:t.legs.length≤20):∀ (n i:Nat),t.legs.length+30<n+i→i≤t.legs.length→Bu n r t (i:Int)=some (if (t.legs.drop i).all (Qq r) then Ex.go () else Ex.ret false)
  | 0,i,h,hi=>by omega
  | n+1,i,h,hi=>by
    rw [Bu,BB]
    by_cases hx:i<t.legs.length
    · simp only [hx,decide_true,cond_true,Bf _ _ hx,Option.bind_some]
      rw [BA hx,List.all_cons,Du i (by omega),OH r t hl hb n (i+1) (by omega) (by omega)]
      unfold Qq
      by_cases hq:(t.legs[i]).length=r.legs.length
      · have e:=OG r (t.legs[i]) hl hq n 0 (by omega) (by omega)
        rw [Int.natCast_zero,List.drop_zero] at e
        have hne:(((t.legs[i]).length:Int) != (r.legs.length:Int))=false:=by simp [hq]
        rw [hne,cond_false,e,decide_eq_true hq,Bool.true_and]
        cases (List.range r.legs.length).all (fun k=>decide ((r.legs[k]!).lo≤(t.legs[i])[k]!∧(t.legs[i])[k]!≤(r.legs[k]!).hi)) <;> rfl
      · have hne:(((t.legs[i]).length:Int) != (r.legs.length:Int))=true:=by simp; omega
        rw [hne,cond_true,decide_eq_false hq,Bool.false_and,Bool.false_and]
        rfl
    · have:i=t.legs.length:=by omega
      simp [this]
theorem Td (n:Nat) (r:Af) (t:Av) (hn:60≤n) (hl:r.legs.length≤20) (hb:r.buses.length≤20) (hs:r.spares.length≤20) (ht:t.legs.length≤20):CF n r t=some (Ni r t):=by
  unfold CF Ni
  rw [FK (x:=((r.buses.length:Nat):Int)+((r.spares.length:Nat):Int)) (by omega) (by omega)]
  by_cases h1:t.tm.length=r.buses.length
  · by_cases h2:t.turns.length=r.buses.length
    · by_cases h3:t.legs.length=r.buses.length+r.spares.length
      · have e1:=OF r t hb h1 h2 n 0 (by omega) (by omega)
        have e2:=OH r t hl ht n 0 (by omega) (by omega)
        simp only [Int.natCast_zero,List.drop_zero] at e1 e2
        have hz:(((t.legs.length:Nat):Int) != ((r.buses.length:Nat):Int)+((r.spares.length:Nat):Int))=false:=by simp; omega
        simp only [h1,h2,hz,bne_self_eq_false,cond_false,Option.bind_some,e1,e2]
        rw [decide_eq_true ⟨trivial,trivial,h3⟩,Bool.true_and]
        cases (List.range r.buses.length).all (Qp r t) with
        | false=>rfl
        | true=>cases t.legs.all (Qq r) <;> rfl
      · have:(((t.legs.length:Nat):Int) != ((r.buses.length:Nat):Int)+((r.spares.length:Nat):Int))=true:=by simp; omega
        simp only [h1,h2,h3,this,bne_self_eq_false,cond_false,cond_true,Option.bind_some,and_false,decide_false,Bool.false_and]
    · have:(((t.turns.length:Nat):Int) != ((r.buses.length:Nat):Int))=true:=by simp; omega
      simp only [h1,h2,this,bne_self_eq_false,cond_false,cond_true,Option.bind_some,false_and,and_false,decide_false,Bool.false_and]
  · have:(((t.tm.length:Nat):Int) != ((r.buses.length:Nat):Int))=true:=by simp; omega
    simp only [h1,this,cond_true,Option.bind_some,false_and,decide_false,Bool.false_and]
theorem Te {r:Af} {t:Av} (h:Ni r t=true):ER r t:=by
  unfold Ni at h
  rw [Bool.and_eq_true,Bool.and_eq_true,decide_eq_true_eq,List.all_eq_true,List.all_eq_true] at h
  obtain⟨⟨h1,h2,h3⟩,h4,h5⟩:=h
  have fb:∀ i<r.buses.length,Qp r t i=true:=fun i hi=>h4 i (List.mem_range.2 hi)
  have lb:∀ i<r.buses.length+r.spares.length,Qq r (t.legs[i]!)=true:=fun i hi=>by
    rw [BQ _ _ (by omega)]; exact h5 _ (List.getElem_mem _)
  refine⟨h1,h2,h3,fun i hi=>?_,fun i hi=>?_,fun i hi=>?_,fun i hi k x d hx hd=>?_⟩
  · have:=fb i hi
    unfold Qp at this
    rw [Bool.and_eq_true,decide_eq_true_eq] at this
    exact this.1
  · have:=fb i hi
    unfold Qp at this
    rw [Bool.and_eq_true,decide_eq_true_eq,decide_eq_true_eq] at this
    exact this.2
  · have:=lb i hi
    unfold Qq at this
    rw [Bool.and_eq_true,decide_eq_true_eq] at this
    exact this.1
  · have:=lb i hi
    unfold Qq at this
    rw [Bool.and_eq_true,decide_eq_true_eq,List.all_eq_true] at this
    have hk:=(List.getElem?_eq_some_iff.1 hx).1
    have h6:=this.2 k (List.mem_range.2 hk)
    rw [decide_eq_true_eq] at h6
    have e1:r.legs[k]! = x:=by rw [getElem!_def,hx]
    have e2:(t.legs[i]!)[k]! = d:=by rw [getElem!_def,hd]
    rwa [e1,e2] at h6
theorem Qr {r:Af} {t:Av} (T:ER r t):Ni r t=true:=by
  unfold Ni
  rw [Bool.and_eq_true,Bool.and_eq_true,decide_eq_true_eq,List.all_eq_true,List.all_eq_true]
  refine⟨⟨T.tm,T.tt,T.legs⟩,fun i hi=>?_,fun x hx=>?_⟩
  · rw [List.mem_range] at hi
    unfold Qp
    rw [Bool.and_eq_true,decide_eq_true_eq,decide_eq_true_eq]
    exact⟨T.tms i hi,T.tts i hi⟩
  · obtain⟨i,hi,rfl⟩:=List.mem_iff_getElem.1 hx
    have hi2:i<r.buses.length+r.spares.length:=by rw [← T.legs]; exact hi
    have h1:=T.ll i hi2
    have h2:=T.leg i hi2
    rw [BQ _ _ hi] at h1 h2
    unfold Qq
    rw [Bool.and_eq_true,decide_eq_true_eq,List.all_eq_true]
    refine⟨h1,fun k hk=>?_⟩
    rw [List.mem_range] at hk
    rw [decide_eq_true_eq]
    have hk2:k<(t.legs[i]).length:=by omega
    rw [BQ _ _ hk,BQ _ _ hk2]
    exact h2 k _ _ (List.getElem?_eq_getElem hk) (List.getElem?_eq_getElem hk2)
theorem Nj:∀ {l m:List Int},l.Pairwise (· < ·)→(∀ y∈l,y∈m)→l.length≤m.length
  | [],_,_,_=>Nat.zero_le _
  | x::l,m,h,hs=>by
    have hp:=List.pairwise_cons.1 h
    have hx:=hs x List.mem_cons_self
    have:=Nj (l:=l) (m:=m.erase x) hp.2 fun y hy=>(List.mem_erase_of_ne (by have:=hp.1 y hy; omega)).2 (hs y (List.mem_cons_of_mem _ hy))
    rw [List.length_erase_of_mem hx] at this
    have:=List.length_pos_of_mem hx
    rw [List.length_cons]; omega
theorem Qs (r:Af) (a:As) (t:Av) (s:Nat):(DO r a t s).length≤2+(r.buses.length+r.spares.length):=by
  unfold DO
  have h1:(((((CA r a t).map (Nd (r.legs.length+1))).map fun p=>p[s]!).filter (TP r)).length)≤(CA r a t).length:=by
    refine Nat.le_trans (List.length_filter_le _ _) ?_
    rw [List.length_map,List.length_map]; exact Nat.le_refl _
  have h2:(CA r a t).length≤r.buses.length+r.spares.length:=by
    unfold CA
    rw [List.length_append,List.length_map,List.length_range]
    have:=List.length_filterMap_le (Hd r a t) (List.range r.spares.length)
    rw [List.length_range] at this
    omega
  rw [List.length_cons,List.length_cons]; omega
theorem K8 (n:Nat) (r:Af) (a:As) (t:Av) (hF:CB r=0) (hA:D4 r a=true) (hT:Ni r t=true) (hn:280≤n) (hn2:n≤900) :
    ∃ ml,Dj n r a t=some (ml,0)∧ml.length=r.legs.length+1∧∀ (s:Nat) l,ml[s]? = some l→l.Pairwise (· < ·)∧(∀ y,y∈l↔y∈DO r a t s)∧l.length≤20:=by
  have V:=Ht hF
  have A:=Gw hA
  have T:=Te hT
  have S:=T.sized V A
  have hok:=T.ok V A
  have:=V.nl
  have:=V.nb
  have:=V.ns
  have hlk:=V.looked
  obtain⟨ml,e1,e2,e3⟩:=Tb n r a t V S hok (by omega) hn2
  have e4:∀ (s:Nat) l,ml[s]? = some l→l.Pairwise (· < ·)∧(∀ y,y∈l↔y∈DO r a t s)∧l.length≤20:=fun s l hl=>by
    obtain⟨g1,g2,_⟩:=e3 s l hl
    have hs:s<r.legs.length+1:=by have:=(List.getElem?_eq_some_iff.1 hl).1; omega
    refine⟨g1,g2,?_⟩
    have h1:=Nj g1 fun y hy=>(g2 y).1 hy
    have h2:=Qs r a t s
    omega
  have hM:Dj n r a t=some (ml,0):=by
    unfold Dj
    rw [RT n r a (by omega) (by omega) (by omega) (by omega),hF,hA]
    simp only [ne_eq,not_true_eq_false,if_false,if_true,Option.bind_some,bne_self_eq_false,cond_false]
    rw [Td n r t (by omega) (by omega) (by omega) (by omega) (by have:=T.legs; omega),hT,Option.bind_some]
    simp only [Bool.not_true,cond_false]
    rw [e1,Option.bind_some]
  exact⟨ml,hM,e2,e4⟩
end Go.Proofs.Ytokchpjijlebiaa
namespace Go.Proofs.Ytokchpjijlebiaa
open Go Go.RowKit
theorem OI (t:Av) (hb:t.legs.length≤20) (hl:∀ x∈t.legs,x.length≤20):∀ (n i:Nat)(acc:List (List Int)),t.legs.length<n+i→i≤t.legs.length→acc.length=i→DD n t acc (i:Int)=some (acc++t.legs.drop i)
  | 0,i,acc,h,hi,_=>by omega
  | n+1,i,acc,h,hi,ha=>by
    rw [DD,BB]
    by_cases hx:i<t.legs.length
    · have h20:=hl _ (List.getElem_mem hx)
      simp only [hx,decide_true,cond_true,Bf _ _ hx,Option.bind_some,FN n _ (show(t.legs[i]).length≤1000 by omega)]
      rw [DI _ _ (by simp; omega)]
      simp only [Option.bind_some]
      rw [Du i (by omega),OI t hb hl n (i+1) _ (by omega) (by omega) (by simp; omega),BA hx,List.append_assoc]
      rfl
    · have:i=t.legs.length:=by omega
      simp [this]
theorem K9 (n:Nat) (t:Av) (hn:30≤n) (h1:t.tm.length≤20) (h2:t.turns.length≤20) (hb:t.legs.length≤20) (hl:∀ x∈t.legs,x.length≤20):ES n t=some t:=by
  unfold ES
  have:=OI t hb hl n 0 [] (by omega) (by omega) rfl
  rw [show((0:Nat):Int)=0 from rfl] at this
  rw [FN n _ (by omega),FN n _ (by omega),this]; rfl
end Go.Proofs.Ytokchpjijlebiaa
namespace Go.Proofs.Ytokchpjijlebiaa
open Go Go.RowKit
def Va (words:List (IK .u16)):Prop:=∀ x∈words,0≤x.n∧x.n≤65535
theorem Pw (n:Nat) (x:Rg) (words:List (IK .u16)) (hw:Va words) (k:Nat) (h0:0≤x.lo) (h1:x.lo≤x.hi) (h2:x.hi≤10000):∃ v,G9 n x words (k:Int)=some v∧x.lo≤v∧v≤x.hi:=by
  unfold G9
  by_cases hl:words.length=0
  · have:(((words.length:Nat):Int) == 0)=true:=by simp [hl]
    rw [this,cond_true]
    exact⟨_,rfl,h1,Int.le_refl _⟩
  · have:(((words.length:Nat):Int) == 0)=false:=by rw [beq_eq_false_iff_ne]; omega
    rw [this,cond_false]
    have e1:nz ((words.length:Nat):Int)=some ():=by unfold nz; rw [if_neg (by omega)]
    have e2:Int.tmod (k:Int) ((words.length:Nat):Int)=((k % words.length:Nat):Int):=rfl
    have hk:k % words.length<words.length:=Nat.mod_lt _ (by omega)
    have hr:=hw _ (List.getElem_mem hk)
    rw [e1,Option.bind_some,e2,Bf _ _ hk,Option.bind_some,FK (x:=(words[k % words.length]).n) (by omega) (by omega)]
    obtain⟨m,hm⟩:∃ m:Nat,(words[k % words.length]).n=(m:Int):=⟨_,(Int.toNat_of_nonneg hr.1).symm⟩
    rw [hm,FK (x:=x.hi-x.lo) (by omega) (by omega),FK (x:=x.hi-x.lo+1) (by omega) (by omega)]
    cases (Int.tmod (m:Int) 4 == 0) with
    | true=>exact⟨_,rfl,Int.le_refl _,h1⟩
    | false =>
      rw [cond_false]
      cases (Int.tmod (m:Int) 4 == 1) with
      | true=>exact⟨_,rfl,h1,Int.le_refl _⟩
      | false =>
        have e3:nz (x.hi-x.lo+1)=some ():=by unfold nz; rw [if_neg (by omega)]
        obtain⟨d,hd⟩:∃ d:Nat,x.hi-x.lo+1=(d:Int):=⟨_,(Int.toNat_of_nonneg (by omega)).symm⟩
        rw [cond_false,e3,Option.bind_some,hd]
        have e4:Int.tmod (m:Int) (d:Int)=((m % d:Nat):Int):=rfl
        have hmd:m % d<d:=Nat.mod_lt _ (by omega)
        rw [e4,FK (by omega) (by omega)]
        exact⟨_,rfl,by omega,by omega⟩
theorem Nk (r:Af) (V:Cf r) (words:List (IK .u16)) (hw:Va words) (i:Nat) (hi:i≤20):∀ (n k:Nat)(acc:List Int),r.legs.length<n+k→k≤r.legs.length→acc.length≤k→∃ L,Dh n r words (i:Int) acc (k:Int)=some (acc++L)∧L.length+k=r.legs.length∧∀ (j:Nat)(x:Rg)(d:Int),r.legs[k+j]? = some x→L[j]? = some d→x.lo≤d∧d≤x.hi
  | 0,k,acc,h,hk,_=>by omega
  | n+1,k,acc,h,hk,ha=>by
    have hnl:=V.nl
    rw [Dh,BB]
    by_cases hx:k<r.legs.length
    · have hv:=V.legs _ (List.getElem_mem hx)
      simp only [hx,decide_true,cond_true]
      rw [Bf _ _ hx,Option.bind_some,FK (x:=9*(i:Int)) (by omega) (by omega),FK (x:=9*(i:Int)+(k:Int)) (by omega) (by omega),show 9*(i:Int)+(k:Int)=((9*i+k:Nat):Int) by omega]
      obtain⟨v,e1,e2,e3⟩:=Pw n (r.legs[k]) words hw (9*i+k) (by omega) (by omega) (by omega)
      rw [e1,Option.bind_some,DI _ _ (by simp; omega),Option.bind_some,Du k (by omega)]
      obtain⟨L,f1,f2,f3⟩:=Nk r V words hw i hi n (k+1) (acc++[v]) (by omega) (by omega) (by simp; omega)
      refine⟨v::L,by rw [f1]; simp,by simp; omega,fun j x d hj hd=>?_⟩
      cases j with
      | zero =>
        rw [Nat.add_zero,List.getElem?_eq_getElem hx] at hj
        cases hj
        simp at hd
        subst hd
        exact⟨e2,e3⟩
      | succ j=>exact f3 j x d (by rw [← hj]; congr 1; omega) (by simpa using hd)
    · have:k=r.legs.length:=by omega
      subst this
      refine⟨[],by simp,by simp,fun j x d _ hd=>by simp at hd⟩
structure Vp (r:Af) (i:Nat) (A B:List Int) (C:List (List Int)):Prop where
  a:A.length+i=r.buses.length∨A.length=0∧r.buses.length≤i
  b:B.length=A.length
  c:C.length+i=r.buses.length+r.spares.length
  at_:∀ (j:Nat)(x:Ce)(d:Int),r.buses[i+j]? = some x→A[j]? = some d→x.tm.lo≤d∧d≤x.tm.hi
  bt:∀ d∈B,r.turn.lo≤d∧d≤r.turn.hi
  ct:∀ L∈C,L.length=r.legs.length∧∀ (j:Nat)(x:Rg)(d:Int),r.legs[j]? = some x→L[j]? = some d→x.lo≤d∧d≤x.hi
theorem Ke (r:Af) (V:Cf r) (words:List (IK .u16)) (hw:Va words):∀ (n i:Nat)(x y:List Int)(z:List (List Int)),r.buses.length+r.spares.length+30<n+i→i≤r.buses.length+r.spares.length→x.length≤i→y.length≤i→z.length≤i →
    ∃ A B C,CM n r words x y z (i:Int)=some (x++A,y++B,z++C)∧Vp r i A B C
  | 0,i,x,y,z,h,hi,_,_,_=>by have:=V.nb; have:=V.ns; omega
  | n+1,i,x,y,z,h,hi,hx1,hy1,hz1=>by
    have hnl:=V.nl
    have hnb:=V.nb
    have hns:=V.ns
    have hT:=V.turn
    rw [CM,FK (x:=((r.buses.length:Nat):Int)+((r.spares.length:Nat):Int)) (by omega) (by omega)]
    by_cases hx:i<r.buses.length+r.spares.length
    · rw [decide_eq_true (show(i:Int)<((r.buses.length:Nat):Int)+((r.spares.length:Nat):Int) by omega),cond_true]
      obtain⟨L,f1,f2,f3⟩:=Nk r V words hw i (by omega) n 0 [] (by omega) (by omega) (by simp)
      rw [Int.natCast_zero] at f1
      rw [f1,Option.bind_some,List.nil_append,DI _ _ (by simp; omega),Option.bind_some]
      have hL:L.length=r.legs.length∧∀ (j:Nat)(x:Rg)(d:Int),r.legs[j]? = some x→L[j]? = some d→x.lo≤d∧d≤x.hi:=⟨by omega,fun j x d hj hd=>f3 j x d (by rw [Nat.zero_add]; exact hj) hd⟩
      by_cases hb:i<r.buses.length
      · have hv:=V.buses _ (List.getElem_mem hb)
        rw [decide_eq_true (show(i:Int)<((r.buses.length:Nat):Int) by omega),cond_true,Bf _ _ hb,Option.bind_some,FK (x:=9*(i:Int)) (by omega) (by omega),FK (x:=9*(i:Int)+7) (by omega) (by omega),FK (x:=9*(i:Int)+8) (by omega) (by omega),
          show 9*(i:Int)+7=((9*i+7:Nat):Int) by omega,show 9*(i:Int)+8=((9*i+8:Nat):Int) by omega]
        obtain⟨v,e1,e2,e3⟩:=Pw n (r.buses[i]).tm words hw (9*i+7) (by omega) (by omega) (by omega)
        obtain⟨u,g1,g2,g3⟩:=Pw n r.turn words hw (9*i+8) (by omega) (by omega) (by omega)
        rw [e1,Option.bind_some,DI _ _ (by simp; omega),Option.bind_some,g1,Option.bind_some,DI _ _ (by simp; omega),Option.bind_some,Du i (by omega)]
        obtain⟨A,B,C,k1,k2⟩:=Ke r V words hw n (i+1) (x++[v]) (y++[u]) (z++[L]) (by omega) (by omega) (by simp; omega) (by simp; omega) (by simp; omega)
        refine⟨v::A,u::B,L::C,by rw [k1]; simp,⟨?_,by simp [k2.b],by have:=k2.c; simp; omega,fun j q d hj hd=>?_,fun d hd=>?_,fun q hq=>?_⟩⟩
        · have:=k2.a; simp; omega
        · cases j with
          | zero =>
            rw [Nat.add_zero,List.getElem?_eq_getElem hb] at hj
            cases hj
            simp at hd; subst hd
            exact⟨e2,e3⟩
          | succ j=>exact k2.at_ j q d (by rw [← hj]; congr 1; omega) (by simpa using hd)
        · rcases List.mem_cons.1 hd with rfl | hd
          · exact⟨g2,g3⟩
          · exact k2.bt d hd
        · rcases List.mem_cons.1 hq with rfl | hq
          · exact hL
          · exact k2.ct q hq
      · rw [decide_eq_false (show ¬ (i:Int)<((r.buses.length:Nat):Int) by omega),cond_false,Du i (by omega)]
        obtain⟨A,B,C,k1,k2⟩:=Ke r V words hw n (i+1) x y (z++[L]) (by omega) (by omega) (by omega) (by omega) (by simp; omega)
        have ha:=k2.a
        refine⟨A,B,L::C,by rw [k1]; simp,⟨by omega,k2.b,by have:=k2.c; simp; omega,fun j q d hj hd=>?_,k2.bt,fun q hq=>?_⟩⟩
        · have:=(List.getElem?_eq_some_iff.1 hj).1; omega
        · rcases List.mem_cons.1 hq with rfl | hq
          · exact hL
          · exact k2.ct q hq
    · rw [decide_eq_false (show ¬ (i:Int)<((r.buses.length:Nat):Int)+((r.spares.length:Nat):Int) by omega),cond_false]
      refine⟨[],[],[],by simp,⟨.inr ⟨rfl,by omega⟩,rfl,by simp; omega,fun j q d _ hd=>by simp at hd,fun d hd=>by simp at hd,fun q hq=>by simp at hq⟩⟩
theorem S8 (n:Nat) (r:Af) (V:Cf r) (words:List (IK .u16)) (hw:Va words) (hn:60≤n):∃ t,F6 n r words=some t∧ER r t:=by
  have hnb:=V.nb
  have hns:=V.ns
  obtain⟨A,B,C,k1,k2⟩:=Ke r V words hw n 0 [] [] [] (by omega) (by omega) (by simp) (by simp) (by simp)
  rw [Int.natCast_zero] at k1
  unfold F6
  rw [k1,Option.bind_some]
  have ha:=k2.a
  have hA:A.length=r.buses.length:=by omega
  have hB:B.length=r.buses.length:=by rw [k2.b]; exact hA
  have hC:C.length=r.buses.length+r.spares.length:=by have:=k2.c; omega
  refine⟨_,rfl,?_⟩
  simp only [List.nil_append]
  refine⟨hA,hB,hC,fun i hi=>?_,fun i hi=>?_,fun i hi=>?_,fun i hi k x d hx hd=>?_⟩
  · rw [BQ _ _ hi,BQ _ _ (show i<A.length by omega)]
    exact k2.at_ i _ _ (by rw [Nat.zero_add]; exact List.getElem?_eq_getElem hi) (List.getElem?_eq_getElem _)
  · rw [BQ _ _ (show i<B.length by omega)]
    exact k2.bt _ (List.getElem_mem _)
  · rw [BQ _ _ (show i<C.length by omega)]
    exact(k2.ct _ (List.getElem_mem _)).1
  · rw [BQ _ _ (show i<C.length by omega)] at hd
    exact(k2.ct _ (List.getElem_mem _)).2 k x d hx hd
theorem Rt {r:Af} (V:Cf r) {a:As} {t:Av} {s:Nat} (hs:s<r.legs.length+1) {y:Int} (h:y∈DO r a t s):r.fr≤y∧y≤r.to_:=by
  have:=V.looked
  rcases(GQ V hs).1 h with rfl | rfl | ⟨_,h⟩
  · omega
  · omega
  · exact h
end Go.Proofs.Ytokchpjijlebiaa
namespace Go.Proofs.Ytokchpjijlebiaa
open Go Go.RowKit
def UQ (d:Int) (b:Ce):Ce:=⟨b.stop,⟨b.tm.lo+d,b.tm.hi+d⟩⟩
def UR (d:Int) (s:Az):Az:=⟨s.stop,s.tm+d⟩
def Iz (d:Int) (r:Af):Af:=⟨r.legs,r.turn,r.buses.map (UQ d),r.spares.map (UR d),r.unit,r.gap,r.fr+d,r.to_+d⟩
def TQ (d:Int) (t:Av):Av:=⟨t.tm.map (· + d),t.turns,t.legs⟩
def Qt (d:Int) (p:AX×Ax):AX×Ax:=(⟨p.1.stop,p.1.tm+d,p.1.turned⟩,p.2)
def SO (d:Int) (x:Rg):Rg:=⟨x.lo+d,x.hi+d⟩
theorem Nl (st turned turn:Int) (legs:List Int) (d:Int):∀ (n:Nat)(tm s:Int),Bw st turned turn legs n (tm+d) s=(Bw st turned turn legs n tm s).map fun p=>(p.1,p.2+d)
  | 0,_,_=>rfl
  | n+1,tm,s=>by
    rw [Bw,Bw]
    by_cases h:0≤s∧s<st
    · rw [if_pos h,if_pos h]
      by_cases h2:s=turned
      · rw [if_pos h2,if_pos h2,List.map_cons,show tm+d+turn=tm+turn+d by omega,Nl st turned turn legs d n]
      · rw [if_neg h2,if_neg h2,List.map_cons]
        cases legs[s.toNat]? with
        | none=>rfl
        | some x =>
          show(s,tm+d)::Bw st turned turn legs n (tm+d+x) (s+1)=_::List.map _ (Bw st turned turn legs n (tm+x) (s+1))
          rw [show tm+d+x=tm+x+d by omega,Nl st turned turn legs d n]
    · rw [if_neg h,if_neg h]; rfl
theorem Qu {K:Type} [DecidableEq K] (d:Int) (k:K):∀ l:List (K×Int),BH (l.map fun p=>(p.1,p.2+d)) k=(BH l k).map (· + d)
  | []=>rfl
  | p::l=>by
    rw [List.map_cons,BH,BH]
    by_cases h:p.1=k
    · rw [if_pos h,if_pos h]; rfl
    · rw [if_neg h,if_neg h]; exact Qu d k l
theorem Px (st:Int) (d:Int) (p:AX×Ax) (k:Int):Ft st (Qt d p) k=(Ft st p k).map (· + d):=by
  show BH (Bw st p.1.turned p.2.turn p.2.legs 40 (p.1.tm+d) p.1.stop) k=_
  rw [Nl,Qu]; rfl
theorem S9 (st d:Int) (p:(AX×Ax)×(AX×Ax)) (k:Int):Dx st 40 (Qt d p.1,Qt d p.2) k=(Dx st 40 p k).map (SO d):=by
  have e1:=Px st d p.1 k
  have e2:=Px st d p.2 k
  unfold Ft at e1 e2
  unfold Dx
  rw [e1,e2]
  cases BH (Bw st p.1.1.turned p.1.2.turn p.1.2.legs 40 p.1.1.tm p.1.1.stop) k <;> cases BH (Bw st p.2.1.turned p.2.2.turn p.2.2.legs 40 p.2.1.tm p.2.1.stop) k <;> rfl
theorem Py (d:Int) (r:Af) (i:Nat) (h:i<r.buses.length):(Iz d r).buses[i]! = UQ d r.buses[i]!:=Hv (UQ d) r.buses i h
theorem Qv (d:Int) (r:Af) (i:Nat) (h:i<r.spares.length):(Iz d r).spares[i]! = UR d r.spares[i]!:=Hv (UR d) r.spares i h
theorem Ik (d:Int) (r:Af):(Iz d r).buses.length=r.buses.length:=List.length_map ..
theorem Nm (d:Int) (r:Af):(Iz d r).spares.length=r.spares.length:=List.length_map ..
theorem Tf (d:Int) (r:Af) (a:As) (t:Av) (ht:t.tm.length=r.buses.length):CA (Iz d r) a (TQ d t)=(CA r a t).map (Qt d):=by
  unfold CA
  rw [List.map_append,List.map_map,List.map_filterMap,Ik,Nm]
  congr 1
  · refine List.map_congr_left fun i hi=>?_
    rw [List.mem_range] at hi
    have e:(TQ d t).tm[i]! = t.tm[i]! + d:=Hv (· + d) t.tm i (by omega)
    show C1 (Iz d r) a (TQ d t) i=Qt d (C1 r a t i)
    unfold C1 Qt
    rw [Py d r i hi,e]
    show((⟨(r.buses[i]!).stop,t.tm[i]! + d+a.holds[i]! * r.unit,a.turns[i]!⟩,⟨t.legs[i]!,t.turns[i]!⟩):AX×Ax)=(⟨(r.buses[i]!).stop,t.tm[i]! + a.holds[i]! * r.unit+d,a.turns[i]!⟩,⟨t.legs[i]!,t.turns[i]!⟩)
    rw [show t.tm[i]! + d+a.holds[i]! * r.unit=t.tm[i]! + a.holds[i]! * r.unit+d by omega]
  · refine Dy fun j hj=>?_
    rw [List.mem_range] at hj
    unfold Hd
    rw [Qv d r j hj,Ik]
    by_cases c:a.spares[j]! = true
    · rw [if_pos c,if_pos c]; rfl
    · rw [if_neg c,if_neg c]; rfl
theorem Tg (d:Int) (r:Af) (a:As):Fb (Iz d r) a=(Fb r a).map fun p=>(Qt d p.1,Qt d p.2):=by
  unfold Fb
  rw [List.map_append,List.map_map,List.map_filterMap,Ik,Nm]
  congr 1
  · refine List.map_congr_left fun i hi=>?_
    rw [List.mem_range] at hi
    have e:∀ (f:Rg→Int),f (SO d (r.buses[i]!).tm)=f (r.buses[i]!).tm+d→DR (Iz d r) a f i=Qt d (DR r a f i):=fun f hf=>by
      unfold DR Qt
      rw [Py d r i hi]
      show((⟨(r.buses[i]!).stop,f (SO d (r.buses[i]!).tm)+a.holds[i]! * r.unit,a.turns[i]!⟩,⟨r.legs.map f,f r.turn⟩):AX×Ax)=(⟨(r.buses[i]!).stop,f (r.buses[i]!).tm+a.holds[i]! * r.unit+d,a.turns[i]!⟩,⟨r.legs.map f,f r.turn⟩)
      rw [hf,show f (r.buses[i]!).tm+d+a.holds[i]! * r.unit=f (r.buses[i]!).tm+a.holds[i]! * r.unit+d by omega]
    show(DR (Iz d r) a Rg.lo i,DR (Iz d r) a Rg.hi i)=(Qt d (DR r a Rg.lo i),Qt d (DR r a Rg.hi i))
    rw [e Rg.lo rfl,e Rg.hi rfl]
  · refine Dy fun j hj=>?_
    rw [List.mem_range] at hj
    by_cases c:a.spares[j]! = true
    · rw [if_pos c,if_pos c]
      have e:∀ (f:Rg→Int),I6 (Iz d r) f j=Qt d (I6 r f j):=fun f=>by
        unfold I6 Qt
        rw [Qv d r j hj]; rfl
      rw [e,e]; rfl
    · rw [if_neg c,if_neg c]; rfl
theorem SB (d:Int) (r:Af) (a:As) (k:Nat):CN (Iz d r) a k=(CN r a k).map (SO d):=by
  unfold CN
  rw [Tg,List.filterMap_map,List.map_filterMap]
  exact Dy fun p _=>S9 _ d p k
theorem Nn (m d:Int):∀ (l:List Rg)(to_:Int),Cc (m+d) (to_+d) (l.map (SO d))=Cc m to_ l+d
  | [],_=>rfl
  | x::l,to_=>by
    have ih:=fun t=>Nn m d l t
    unfold Cc at ih ⊢
    rw [List.map_cons,List.foldl_cons,List.foldl_cons]
    by_cases h:x.lo>m
    · rw [if_pos (show(SO d x).lo>m+d by show x.lo+d>m+d; omega),if_pos h,show min (to_+d) (SO d x).hi=min to_ x.hi+d by show min (to_+d) (x.hi+d)=_; omega,ih]
    · rw [if_neg (show ¬ (SO d x).lo>m+d by show ¬ x.lo+d>m+d; omega),if_neg h,ih]
theorem Ru (fr to_ d:Int) (l:List Rg):DU (fr+d) (to_+d) (l.map (SO d))=(DU fr to_ l).map (· + d):=by
  unfold DU
  rw [List.map_cons,List.filter_map,List.map_map,List.map_map]
  congr 1
  have:((fun p:Rg=>decide (fr+d≤p.lo) && decide (p.lo≤to_+d)) ∘ SO d)=fun p:Rg=>decide (fr≤p.lo) && decide (p.lo≤to_):=by
    funext p
    show(decide (fr+d≤p.lo+d) && decide (p.lo+d≤to_+d))=_
    congr 1
    · exact decide_eq_decide.2 (by omega)
    · exact decide_eq_decide.2 (by omega)
  rw [this]; rfl
theorem Vb (fr to_ d:Int) (l:List Rg):WR (fr+d) (to_+d) (l.map (SO d))=WR fr to_ l:=by
  unfold WR
  rw [Ru,List.foldl_map]
  congr 1
  funext b m
  show max b (Cc (m+d) (to_+d) (l.map (SO d))-(m+d))=_
  rw [Nn,show Cc m to_ l+d-(m+d)=Cc m to_ l-m by omega]
theorem OJ (d:Int) (r:Af) (a:As):BV (Iz d r) a=BV r a:=by
  unfold BV
  refine List.map_congr_left fun k _=>?_
  rw [SB]
  exact Vb _ _ _ _
theorem KA (d:Int) (r:Af) (a:As):D4 (Iz d r) a=D4 r a:=by
  unfold D4
  rw [Ik,Nm]
  congr 1
  rw [Bool.eq_iff_iff,List.all_eq_true,List.all_eq_true]
  refine forall_congr' fun i=>imp_congr_right fun hi=>?_
  rw [List.mem_range] at hi
  unfold Hu
  rw [Py d r i hi]; rfl
theorem TY {d:Int} {r:Af} {t:Av} (T:ER r t):ER (Iz d r) (TQ d t):=by
  refine⟨by rw [Ik]; show(t.tm.map _).length=_; rw [List.length_map]; exact T.tm,by rw [Ik]; exact T.tt,by rw [Ik,Nm]; exact T.legs,fun i hi=>?_,fun i hi=>?_,fun i hi=>?_,fun i hi=>?_⟩
  · rw [Ik] at hi
    have e:(TQ d t).tm[i]! = t.tm[i]! + d:=Hv (· + d) t.tm i (by rw [T.tm]; exact hi)
    have:=T.tms i hi
    rw [Py d r i hi,e]
    show(r.buses[i]!).tm.lo+d≤_∧_≤(r.buses[i]!).tm.hi+d
    omega
  · rw [Ik] at hi; exact T.tts i hi
  · rw [Ik,Nm] at hi; exact T.ll i hi
  · rw [Ik,Nm] at hi; exact T.leg i hi
theorem Rv {d:Int} {r:Af} {a:As} {t:Av} (V:Cf r) (V':Cf (Iz d r)) (ht:t.tm.length=r.buses.length) {s:Nat} (hs:s<r.legs.length+1) (y:Int):y∈DO (Iz d r) a (TQ d t) s↔y-d∈DO r a t s:=by
  rw [GQ V hs,GQ V' hs,Tf d r a t ht]
  have e1:y=(Iz d r).fr↔y-d=r.fr:=by show y=r.fr+d↔_; omega
  have e2:y=(Iz d r).to_↔y-d=r.to_:=by show y=r.to_+d↔_; omega
  have e3:((Iz d r).fr≤y∧y≤(Iz d r).to_)↔(r.fr≤y-d∧y-d≤r.to_):=by show(r.fr+d≤y∧y≤r.to_+d)↔_; omega
  have e4:(∃ p∈(CA r a t).map (Qt d),Ft (((Iz d r).legs.length:Int)+1) p s=some y)↔∃ p∈CA r a t,Ft ((r.legs.length:Int)+1) p s=some (y-d):=by
    have g:∀ p,Ft ((r.legs.length:Int)+1) (Qt d p) s=some y↔Ft ((r.legs.length:Int)+1) p s=some (y-d):=fun p=>by
      rw [Px]
      cases Ft ((r.legs.length:Int)+1) p s with
      | none=>simp
      | some z=>simp; omega
    constructor
    · rintro⟨p,hp,h⟩
      obtain⟨q,hq,rfl⟩:=List.mem_map.1 hp
      exact⟨q,hq,(g q).1 h⟩
    · rintro⟨p,hp,h⟩
      exact⟨Qt d p,List.mem_map.2 ⟨p,hp,rfl⟩,(g p).2 h⟩
  rw [e1,e2,e3,e4]
theorem OL (r:Af) (V:Cf r) (by_:IK .u8) (b0:0≤by_.n) (b1:by_.n≤255):∀ (q:List Ce)(q':List Int)(n:Nat)(p:List Ce)(p':List Int),q.length<n→p.length+q.length≤100→r.buses.drop p.length=q→p'.length=p.length→q'.length=q.length→(∀ x∈q',0≤x∧x≤2000)→B1 n r by_ (p++q) (p'++q') (p.length:Int)=some (p++q.map (UQ by_.n),p'++q'.map (· + by_.n))
  | [],q',n,p,p',h,hb,hd,hp,hq,hr=>by
    obtain rfl:q' = []:=List.length_eq_zero_iff.1 hq
    cases n with
    | zero=>simp at h
    | succ n =>
      rw [B1,BB,decide_eq_false (by simp),cond_false]
      simp
  | x::q,[],n,p,p',h,hb,hd,hp,hq,hr=>by simp at hq
  | x::q,y::q',n,p,p',h,hb,hd,hp,hq,hr=>by
    cases n with
    | zero=>simp at h
    | succ n =>
      have hl:p.length<(p++x::q).length:=by simp
      have hl':p.length<(p'++y::q').length:=by simp [hp]
      have e1:Cr r.buses (p.length:Int)=some x:=by
        have:=congrArg List.head? hd
        rwa [List.head?_drop] at this
      have e2:Cr (p++x::q) (p.length:Int)=some x:=by rw [Rl]; simp
      have e3:Cr (p'++y::q') (p.length:Int)=some y:=by rw [Rl,← hp]; simp
      have u1:∀ z,upd (p++x::q) (p.length:Int) z=some (p++z::q):=fun z=>by rw [Oj _ _ _ hl]; simp
      have u2:∀ z,upd (p'++y::q') (p.length:Int) z=some (p'++z::q'):=fun z=>by rw [Oj _ _ _ hl',← hp]; simp
      have hxm:x∈r.buses:=List.mem_of_mem_drop (i:=p.length) (by rw [hd]; exact List.mem_cons_self)
      have B:=V.buses x hxm
      have Y:=hr y List.mem_cons_self
      simp only [List.length_cons] at h hb hq
      have hd':r.buses.drop (p.length+1)=q:=by
        have:(r.buses.drop p.length).drop 1=q:=by rw [hd]; rfl
        rwa [List.drop_drop] at this
      rw [B1,BB,decide_eq_true hl,cond_true,e1,Option.bind_some,Option.bind_some,e2,Option.bind_some,FK (x:=by_.n) (by omega) (by omega),FK (x:=x.tm.lo+by_.n) (by omega) (by omega),FK (x:=x.tm.hi+by_.n) (by omega) (by omega),u1,Option.bind_some,e3,Option.bind_some,Option.bind_some,FK (x:=y+by_.n) (by omega) (by omega),u2,Option.bind_some,Du p.length (by omega)]
      have ih:=OL r V by_ b0 b1 q q' n (p++[UQ by_.n x]) (p'++[y+by_.n]) (by omega) (by simp; omega) (by simpa using hd') (by simp [hp]) (by omega) (fun z hz=>hr z (List.mem_cons_of_mem _ hz))
      simp only [List.append_assoc,List.singleton_append,List.length_append,List.length_singleton] at ih
      exact ih
theorem OM (r:Af) (V:Cf r) (by_:IK .u8) (b0:0≤by_.n) (b1:by_.n≤255):∀ (q:List Az)(n:Nat)(p:List Az),q.length<n→p.length+q.length≤100→(∀ x∈q,x∈r.spares)→B2 n by_ (p++q) (p.length:Int)=some (p++q.map (UR by_.n))
  | [],n,p,h,hb,hd=>by
    cases n with
    | zero=>simp at h
    | succ n =>
      rw [B2,BB,decide_eq_false (by simp),cond_false]
      simp
  | x::q,n,p,h,hb,hd=>by
    cases n with
    | zero=>simp at h
    | succ n =>
      have hl:p.length<(p++x::q).length:=by simp
      have e2:Cr (p++x::q) (p.length:Int)=some x:=by rw [Rl]; simp
      have u1:∀ z,upd (p++x::q) (p.length:Int) z=some (p++z::q):=fun z=>by rw [Oj _ _ _ hl]; simp
      have B:=V.spares x (hd x List.mem_cons_self)
      simp only [List.length_cons] at h hb
      rw [B2,BB,decide_eq_true hl,cond_true,e2,Option.bind_some,Option.bind_some,FK (x:=by_.n) (by omega) (by omega),FK (x:=x.tm+by_.n) (by omega) (by omega),u1,Option.bind_some,Du p.length (by omega)]
      have ih:=OM r V by_ b0 b1 q n (p++[UR by_.n x]) (by omega) (by simp; omega) (fun z hz=>hd z (List.mem_cons_of_mem _ hz))
      simp only [List.append_assoc,List.singleton_append,List.length_append,List.length_singleton] at ih
      exact ih
theorem ON (by_:IK .u8) (b0:0≤by_.n) (b1:by_.n≤255) (ml:List (List Int)) (l:List Int) (s:Nat) (hs:ml[s]? = some l) (hl:l.length≤100) (hr:∀ x∈l,0≤x∧x≤10000):∀ (n i:Nat),l.length<n+i→i≤l.length→BN n by_ (ml,0) (ml.map fun l=>l.map (· + by_.n),0) (s:Int) (i:Int)=some (Ex.go ())
  | 0,i,h,hi=>by omega
  | n+1,i,h,hi=>by
    have e1:Cr ml (s:Int)=some l:=hs
    have e2:Cr (ml.map fun l=>l.map (· + by_.n)) (s:Int)=some (l.map (· + by_.n)):=by rw [Rl,List.getElem?_map,hs]; rfl
    rw [BN]
    simp only []
    rw [e1,Option.bind_some,BB]
    by_cases hx:i<l.length
    · have e3:Cr (l.map (· + by_.n)) (i:Int)=some (l[i]+by_.n):=by rw [Bf _ _ (by rw [List.length_map]; exact hx)]; simp
      have b:=hr _ (List.getElem_mem hx)
      rw [decide_eq_true hx,cond_true,e2,Option.bind_some,e3,Option.bind_some,Option.bind_some,Bf _ _ hx,Option.bind_some,FK (x:=by_.n) (by omega) (by omega),FK (x:=l[i]+by_.n) (by omega) (by omega),bne_self_eq_false,cond_false,Du i (by omega)]
      exact ON by_ b0 b1 ml l s hs hl hr n (i+1) (by omega) (by omega)
    · rw [decide_eq_false hx,cond_false]
theorem OO (by_:IK .u8) (b0:0≤by_.n) (b1:by_.n≤255) (ml:List (List Int)) (hb:ml.length≤50) (hr:∀ l∈ml,l.length≤20∧∀ x∈l,0≤x∧x≤10000):∀ (n i:Nat),ml.length+30<n+i→i≤ml.length→B3 n by_ (ml,0) (ml.map fun l=>l.map (· + by_.n),0) (i:Int)=some (Ex.go ())
  | 0,i,h,hi=>by omega
  | n+1,i,h,hi=>by
    rw [B3]
    simp only []
    rw [BB]
    by_cases hx:i<ml.length
    · obtain⟨c1,c2⟩:=hr _ (List.getElem_mem hx)
      have e2:Cr (ml.map fun l=>l.map (· + by_.n)) (i:Int)=some (ml[i].map (· + by_.n)):=by rw [Bf _ _ (by rw [List.length_map]; exact hx)]; simp
      have e4:=ON by_ b0 b1 ml ml[i] i (List.getElem?_eq_getElem hx) (by omega) c2 n 0 (by omega) (by omega)
      rw [Int.natCast_zero] at e4
      rw [decide_eq_true hx,cond_true,Bf _ _ hx,Option.bind_some,e2,Option.bind_some,List.length_map,bne_self_eq_false,cond_false,e4,Option.bind_some]
      show B3 n by_ (ml,0) (ml.map fun l=>l.map (· + by_.n),0) (IntKind.i64.wrap ((i:Int)+1))=_
      rw [Du i (by omega)]
      exact OO by_ b0 b1 ml hb hr n (i+1) (by omega) (by omega)
    · rw [decide_eq_false hx,cond_false]
theorem TZ (n:Nat) (r:Af) (d:Int) (hF:CB r=0) (hF':CB (Iz d r)=0) (hn:110≤n) (hn2:n≤900) :
    ∃ b e,C2 n r=some (b,e)∧C2 n (Iz d r)=some (b,e)∧b.holds.length≤20∧b.turns.length≤20∧b.spares.length≤20:=by
  have V:=Ht hF
  have hmw:∀ a,maxW (Iz d r) a=maxW r a:=fun a=>by unfold maxW; rw [OJ]
  rcases L0 n r hF hn hn2 with⟨c,hB,hBa,hBk,hBb⟩ | ⟨hB,hBn⟩
  · have B:=Gw hBa
    have l1:=B.holds
    have l2:=B.turns
    have l3:=B.spares
    have:=V.nb
    have:=V.ns
    rcases L0 n (Iz d r) hF' hn hn2 with⟨e,hD,hDa,hDk,hDb⟩ | ⟨hD,hDn⟩
    · rw [KA] at hDa
      have D:=Gw hDa
      rw [hmw] at hDk
      have c1:=hBb e hDa hDk
      have c2:=hDb c (by rw [KA]; exact hBa) (by rw [hmw]; exact hBk)
      have:c=e:=TX V hBa hDa (Rr (by unfold enc; simp [B.holds,B.turns,B.spares,D.holds,D.turns,D.spares]) c2 c1)
      subst this
      exact⟨c,0,hB,hD,by omega,by omega,by omega⟩
    · exfalso
      have h3:=hDn c (by rw [KA]; exact hBa)
      rw [hmw] at h3
      have:(Iz d r).gap=r.gap:=rfl
      omega
  · rcases L0 n (Iz d r) hF' hn hn2 with⟨e,hD,hDa,hDk,hDb⟩ | ⟨hD,hDn⟩
    · exfalso
      rw [KA] at hDa
      have h3:=hBn e hDa
      rw [hmw] at hDk
      have:(Iz d r).gap=r.gap:=rfl
      omega
    · exact⟨_,_,hB,hD,by simp,by simp,by simp⟩
theorem L5 (n:Nat) (hn:300≤n) (hn2:n≤900) (hw:F8 n=some true) (r:Af) (a:As) (words:List (IK .u16)) (by_:IK .u8) (hwd:Va words) (b0:0≤by_.n) (b1:by_.n≤255):Es n r a words by_=some true:=by
  unfold Es
  obtain⟨b,hb,hbb⟩:=SU n r a (by omega)
  rw [hb,Option.bind_some]
  cases b with
  | false=>simp only [Bool.not_false,cond_true,hw,Option.bind_some]
  | true =>
    obtain⟨c1,c2,c3,c4,c5,c6,hF,hA⟩:=hbb rfl
    have V:=Ht hF
    have hlk:=V.looked
    obtain⟨t,ht,T⟩:=S8 n r V words hwd (by omega)
    have t1:=T.tm
    have t2:=T.tt
    have t3:=T.legs
    have hTt:ES n t=some t:=K9 n t (by omega) (by omega) (by omega) (by omega) fun x hx=>by
      obtain⟨i,hi,rfl⟩:=List.mem_iff_getElem.1 hx
      have:=T.ll i (by omega)
      rw [BQ _ _ hi] at this; omega
    have htm:∀ x∈t.tm,0≤x∧x≤2000:=fun x hx=>by
      obtain⟨i,hi,rfl⟩:=List.mem_iff_getElem.1 hx
      have h1:=T.tms i (by omega)
      have hi2:i<r.buses.length:=by omega
      rw [BQ _ _ hi,BQ _ _ hi2] at h1
      have h2:=V.buses _ (List.getElem_mem hi2)
      omega
    have el1:=OL r V by_ b0 b1 r.buses t.tm n [] [] (by omega) (by simp; omega) (by simp) rfl (by omega) htm
    have el2:=OM r V by_ b0 b1 r.spares n [] (by omega) (by simp; omega) (fun x h=>h)
    simp only [List.nil_append,List.length_nil,Int.natCast_zero] at el1 el2
    have hx:(Af.mk r.legs r.turn (r.buses.map (UQ by_.n)) (r.spares.map (UR by_.n)) r.unit r.gap (r.fr+by_.n) (r.to_+by_.n))=Iz by_.n r:=rfl
    have hy:(Av.mk (t.tm.map (· + by_.n)) t.turns t.legs)=TQ by_.n t:=rfl
    have xl:(Iz by_.n r).legs=r.legs:=rfl
    have xb:=Ik by_.n r
    have xs:=Nm by_.n r
    simp only [Bool.not_true,cond_false]
    rw [DI _ _ (by simp; omega),Option.bind_some,DI _ _ (by simp; omega),Option.bind_some,ht,Option.bind_some,Option.bind_some,List.nil_append,List.nil_append,el1,Option.bind_some,el2,Option.bind_some]
    simp only []
    rw [FK (x:=by_.n) (by omega) (by omega),FK (x:=r.fr+by_.n) (by omega) (by omega),FK (x:=r.to_+by_.n) (by omega) (by omega),hx,hy,K2 n _ (by omega) (by rw [xl]; omega) (by omega) (by omega),Option.bind_some]
    by_cases hF':CB (Iz by_.n r)=0
    · have V':=Ht hF'
      have hA':D4 (Iz by_.n r) a=true:=by rw [KA]; exact hA
      have T':ER (Iz by_.n r) (TQ by_.n t):=TY T
      have hTt':ES n (TQ by_.n t)=some (TQ by_.n t):=K9 n _ (by omega) (by have:=T'.tm; omega) (by have:=T'.tt; omega) (by have:=T'.legs; omega) fun x hx=>by
        obtain⟨i,hi,rfl⟩:=List.mem_iff_getElem.1 hx
        have hi':i<t.legs.length:=hi
        have:=T.ll i (by omega)
        rw [BQ _ _ hi'] at this
        show t.legs[i].length≤20
        omega
      obtain⟨ml,m1,m3,m4⟩:=K8 n r a t hF hA (Qr T) (by omega) hn2
      obtain⟨ml',k1,k3,k4⟩:=K8 n _ a _ hF' hA' (Qr T') (by omega) hn2
      have hml:ml' = ml.map fun l=>l.map (· + by_.n):=by
        refine List.ext_getElem? fun s=>?_
        by_cases hs:s<r.legs.length+1
        · have q1:s<ml.length:=by omega
          have q2:s<ml'.length:=by rw [k3,xl]; exact hs
          obtain⟨p1,p2,_⟩:=m4 s _ (List.getElem?_eq_getElem q1)
          obtain⟨p3,p4,_⟩:=k4 s _ (List.getElem?_eq_getElem q2)
          rw [List.getElem?_map,List.getElem?_eq_getElem q1,List.getElem?_eq_getElem q2]
          refine congrArg some (Nf p3 (p1.map _ fun u v huv=>by show u+by_.n<v+by_.n; omega) fun y=>?_)
          rw [p4,Rv V V' T.tm hs,List.mem_map]
          constructor
          · intro h; exact⟨y-by_.n,(p2 _).2 h,by omega⟩
          · rintro⟨z,hz,rfl⟩
            rw [show z+by_.n-by_.n=z by omega]; exact(p2 z).1 hz
        · have q1:ml.length≤s:=by omega
          have q2:ml'.length≤s:=by rw [k3,xl]; omega
          rw [List.getElem?_eq_none q2,List.getElem?_eq_none (by rw [List.length_map]; exact q1)]
      subst hml
      obtain⟨bb,ee,v1,v2,v3,v4,v5⟩:=TZ n r by_.n hF hF' (by omega) hn2
      have hr3:=OO by_ b0 b1 ml (by omega) (fun l hl=>by
        obtain⟨s,hs,rfl⟩:=List.mem_iff_getElem.1 hl
        obtain⟨p1,p2,p3⟩:=m4 s _ (List.getElem?_eq_getElem hs)
        refine⟨p3,fun x hx=>?_⟩
        have:=Rt V (by omega) ((p2 x).1 hx)
        omega) n 0 (by omega) (by omega)
      rw [Int.natCast_zero] at hr3
      rw [hF',Kx n r (by omega) (by omega) (by omega) (by omega),Kx n (Iz by_.n r) (by omega) (by rw [xl]; omega) (by omega) (by omega),Qb n a (by omega) (by omega) (by omega),hTt,hTt']
      simp only [bne_self_eq_false,cond_false,Option.bind_some]
      rw [m1,Option.bind_some,k1,Option.bind_some,Qk n r a hF hA (by omega) hn2,Option.bind_some,Qk n _ a hF' hA' (by omega) hn2,Option.bind_some,OJ,v1,Option.bind_some,v2,Option.bind_some]
      simp only [bne_self_eq_false,cond_false,Option.bind_some]
      have hwl:(BV r a).length=r.legs.length+1:=by simp [BV]
      rw [On n bb (by omega) v3 v4 v5,Option.bind_some,L4 n _ (by omega) (by omega)]
      simp only [Bool.not_true,cond_false,Option.bind_some,List.length_map,bne_self_eq_false]
      rw [hr3,Option.bind_some]
      simp only [Ex.bind]
      rw [hw,Option.bind_some]
    · have:(CB (Iz by_.n r) != 0)=true:=by simpa using hF'
      rw [this,cond_true,hw,Option.bind_some]
end Go.Proofs.Ytokchpjijlebiaa
