/- The plain law. -/
import Derived.Test.YtokchpjijlebiaaGreatRQWW
set_option linter.all false
namespace Go.Proofs.YtokchpjijlebiaaGreat
open Go Go.RowKit
theorem G9 {x:Int} (h0 : -9223372036854775808≤x) (h1:x≤9223372036854775807):IntKind.i64.wrap x=x:=by
  simp [IntKind.wrap,IntKind.bits,IntKind.signed]; omega
theorem Dc (i:Nat) (h:i<1000000000000):IntKind.i64.wrap ((i:Int)+1)=((i+1:Nat):Int):=by
  rw [G9 (by omega) (by omega)]; omega
theorem Qp {α:Type} (xs:List α) (i:Nat):Cm xs (i:Int)=xs[i]?:=rfl
theorem AH {α:Type} (xs:List α) (i:Nat) (h:i<xs.length):Cm xs (i:Int)=some xs[i]:=by rw [Qp,Wy h]
theorem DE {α:Type} (xs ys:List α) (h:xs.length+ys.length≤1000000000):Jj xs ys=some (xs++ys):=by
  unfold Jj; rw [if_pos (by simpa using h)]
theorem NE {α:Type} (xs:List α) (i:Nat) (y:α) (h:i<xs.length):upd xs (i:Int) y=some (xs.set i y):=by
  show(if i<xs.length then some (xs.set i y) else none)=_
  rw [if_pos h]
theorem Wm {α:Type} (n:Nat) (x:α) (h:n≤1000000000):mk (n:Int) x=some (List.replicate n x):=by
  unfold mk; rw [if_pos (by omega)]; rfl
theorem AR {α:Type} {xs:List α} {i:Nat} (h:i<xs.length):xs.drop i=xs[i]::xs.drop (i+1):=List.drop_eq_getElem_cons h
theorem BC {α:Type} (xs:List α) (i:Nat):decide ((i:Int)<((xs.length:Nat):Int))=decide (i<xs.length):=by
  by_cases h:i<xs.length <;> simp [h]
theorem CZ (n:Nat) (l:List Int) (h:l.length≤1000):Dz n l=some l:=by
  unfold Dz
  simp [DE [] l (by simp; omega)]
theorem IP (r:Af) (hb:r.lA.length≤1000):∀ (n i:Nat)(acc:List Rg),r.lA.length<n+i→i≤r.lA.length→acc.length=i→Ee n r acc (i:Int)=some (acc++r.lA.drop i)
  | 0,i,acc,h,hi,_=>by omega
  | n+1,i,acc,h,hi,ha=>by
    rw [Ee,BC]
    by_cases hx:i<r.lA.length
    · simp only [hx,decide_true,cond_true,AH _ _ hx,Wz,Jy]
      rw [DE _ _ (by simp; omega)]
      simp only [Wz]
      rw [Dc i (by omega),IP r hb n (i+1) _ (by omega) (by omega) (by simp; omega),AR hx,W0]
      rfl
    · have:i=r.lA.length:=by omega
      simp [this]
theorem IQ (r:Af) (hb:r.lB.length≤1000):∀ (n i:Nat)(acc:List CW),r.lB.length<n+i→i≤r.lB.length→acc.length=i→Ef n r acc (i:Int)=some (acc++r.lB.drop i)
  | 0,i,acc,h,hi,_=>by omega
  | n+1,i,acc,h,hi,ha=>by
    rw [Ef,BC]
    by_cases hx:i<r.lB.length
    · simp only [hx,decide_true,cond_true,AH _ _ hx,Wz,Jy]
      rw [DE _ _ (by simp; omega)]
      simp only [Wz]
      rw [Dc i (by omega),IQ r hb n (i+1) _ (by omega) (by omega) (by simp; omega),AR hx,W0]
      rfl
    · have:i=r.lB.length:=by omega
      simp [this]
theorem IS (r:Af) (hb:r.lC.length≤1000):∀ (n i:Nat)(acc:List AK),r.lC.length<n+i→i≤r.lC.length→acc.length=i→Eg n r acc (i:Int)=some (acc++r.lC.drop i)
  | 0,i,acc,h,hi,_=>by omega
  | n+1,i,acc,h,hi,ha=>by
    rw [Eg,BC]
    by_cases hx:i<r.lC.length
    · simp only [hx,decide_true,cond_true,AH _ _ hx,Wz]
      rw [DE _ _ (by simp; omega)]
      simp only [Wz]
      rw [Dc i (by omega),IS r hb n (i+1) _ (by omega) (by omega) (by simp; omega),AR hx,W0]
      rfl
    · have:i=r.lC.length:=by omega
      simp [this]
theorem Ll (n:Nat) (r:Af) (hn:50≤n) (h1:r.lA.length≤20) (h2:r.lB.length≤20) (h3:r.lC.length≤20):ET n r=some r:=by
  unfold ET
  have e1:=IP r (by omega) n 0 [] (by omega) (by omega) rfl
  have e2:=IQ r (by omega) n 0 [] (by omega) (by omega) rfl
  have e3:=IS r (by omega) n 0 [] (by omega) (by omega) rfl
  simp only [W1,W2,W3] at e1 e2 e3
  simp [Jy,e1,e2,e3]
theorem M8 (n:Nat) (a:An) (h1:a.lD.length≤20) (h2:a.lE.length≤20) (h3:a.lC.length≤20):FB n a=some a:=by
  unfold FB
  simp [CZ n _ (show a.lD.length≤1000 by omega),CZ n _ (show a.lE.length≤1000 by omega),DE [] a.lC (by simp; omega)]
open Go Go.RowKit
def Ci (st lF turn:Int) (lA:List Int):Nat→Int→Int→List (Int×Int)
  | 0,_,_=>[]
  | n+1,tm,s=>if 0≤s∧s<st then(s,tm)::(if s=lF then Ci st lF turn lA n (tm+turn) (st-1-s) else match lA[s.toNat]? with
    | some d=>Ci st lF turn lA n (tm+d) (s+1)
    | none=>[]) else []
def TY (turn:Int) (lA:List Int):Prop:=0≤turn∧turn≤300∧lA.length≤20∧∀ d∈lA,0≤d∧d≤300
theorem DF (n:Nat) (r:Af) (h:r.lA.length≤20):AT n r=some ((r.lA.length:Int)+1):=by
  simp only [AT]; rw [G9 (by omega) (by omega)]
theorem GA (n:Nat) (r:Af) (s:Int) (h:r.lA.length≤20):Bp n r s=some (decide (0≤s∧s<(r.lA.length:Int)+1)):=by
  simp only [Bp,DF n r h,Bq,Wz]
  rw [G9 (by omega) (by omega)]
  by_cases h1:0≤s
  · simp [h1]; omega
  · simp [h1]
theorem Lm {σ:Type} (yield_:σ→Int→Int→Option (σ×Bool)) (g:σ→Int→Int→Option σ) (hy:∀ s a b,yield_ s a b=(g s a b).map fun s'=>(s',true)) (q0:Bj) (q1:Af) (q2:A8) (hl:q1.lA.length≤20) (hq:TY q2.turn q2.lA) (hql:q2.lA.length=q1.lA.length)
    (ht:2*q0.lF+1<(q1.lA.length:Int)+1):∀ (n:Nat)(tm s:Int)(x:σ),0≤tm→tm+300*n≤1000000000→0≤s→s≤(q1.lA.length:Int)+1→(q1.lA.length:Int)+1-s<n →
    (AP n yield_ q0 q1 q2 tm s x).bind (fun o=>Ex.bind o (fun r=>some r) fun s=>some s)=(Ci ((q1.lA.length:Int)+1) q0.lF q2.turn q2.lA n tm s).foldlM (fun x p=>g x p.1 p.2) x
  | 0,tm,s,x,_,_,_,h1,h2=>by omega
  | n+1,tm,s,x,h0,hb,hs,h1,h2=>by
    have IH:=Lm yield_ g hy q0 q1 q2 hl hq hql ht n
    obtain⟨t0,t1,hq1,hq2⟩:=hq
    rw [AP,Ci,GA n q1 s hl]
    by_cases hc:0≤s∧s<(q1.lA.length:Int)+1
    · simp only [hc,and_self,decide_true,Wz,cond_true,if_true,hy,W4]
      cases hg:g x s tm with
      | none=>simp
      | some x' =>
        simp only [Option.map_some,Wz,cond_true,Option.bind_eq_bind,DF n q1 hl]
        by_cases hst:s=q0.lF
        · simp only [hst,beq_self_eq_true,cond_true,if_true]
          subst hst
          rw [G9 (x:=tm+q2.turn) (by omega) (by omega),G9 (x:=(q1.lA.length:Int)+1-1) (by omega) (by omega),G9 (x:=(q1.lA.length:Int)+1-1-q0.lF) (by omega) (by omega)]
          exact IH _ _ _ (by omega) (by omega) (by omega) (by omega) (by omega)
        · simp only [beq_eq_false_iff_ne.2 hst,cond_false,hst,if_false]
          by_cases hsl:s<(q2.lA.length:Int)
          · simp only [hsl,decide_true,cond_true]
            obtain⟨k,rfl⟩:∃ k:Nat,s=k:=⟨s.toNat,by omega⟩
            have hk:k<q2.lA.length:=by omega
            have hd:=hq2 _ (W5 hk)
            rw [AH _ _ hk]
            simp only [Wz,Int.toNat_natCast,Wy hk]
            rw [G9 (x:=tm+q2.lA[k]) (by omega) (by omega),G9 (x:=(k:Int)+1) (by omega) (by omega)]
            exact IH _ _ _ (by omega) (by omega) (by omega) (by omega) (by omega)
          · simp only [hsl,decide_false,cond_false,Wz,Ex.bind]
            rw [W6 (by omega)]
            simp
    · simp only [hc,decide_false,Wz,cond_false,Ex.bind,if_false]
      simp
theorem Mh {σ:Type} (n:Nat) (yield_:σ→Int→Int→Option (σ×Bool)) (g:σ→Int→Int→Option σ) (hy:∀ s a b,yield_ s a b=(g s a b).map fun s'=>(s',true)) (q0:Bj) (q1:Af) (q2:A8) (x:σ) (hl:q1.lA.length≤20) (hq:TY q2.turn q2.lA) (hql:q2.lA.length=q1.lA.length)
    (ht:2*q0.lF+1<(q1.lA.length:Int)+1) (h0:0≤q0.tm) (h1:q0.tm≤100000) (hn:30≤n) (hn2:n≤1000) (hs:0≤q0.stop) (hs2:q0.stop≤(q1.lA.length:Int)+1) :
    AW n yield_ x q0 q1 q2=(Ci ((q1.lA.length:Int)+1) q0.lF q2.turn q2.lA n q0.tm q0.stop).foldlM (fun x p=>g x p.1 p.2) x :=
  Lm yield_ g hy q0 q1 q2 hl hq hql ht n q0.tm q0.stop x h0 (by omega) hs hs2 (by omega)
theorem F9 {st lF turn:Int} {lA:List Int} (ht:2*lF+1<st):∀ (n:Nat)(tm s:Int)(p:Int×Int),p∈Ci st lF turn lA n tm s→s≤p.1∧0≤p.1∧p.1<st
  | 0,_,_,_,h=>by simp [Ci] at h
  | n+1,tm,s,p,h=>by
    rw [Ci] at h
    split at h
    · rename_i hc
      rcases List.mem_cons.1 h with rfl | h
      · exact⟨W7 _,hc.1,hc.2⟩
      · split at h
        · have:=F9 ht n _ _ p h
          omega
        · split at h
          · have:=F9 ht n _ _ p h
            omega
          · simp at h
    · simp at h
theorem Gs {st lF turn:Int} {lA:List Int} (ht:2*lF+1<st):∀ (n:Nat)(tm s:Int),((Ci st lF turn lA n tm s).map Prod.fst).Nodup
  | 0,_,_=>by simp [Ci]
  | n+1,tm,s=>by
    rw [Ci]
    split
    · rename_i hc
      rw [W8,List.nodup_cons]
      split
      · rename_i hs
        refine⟨fun h=>?_,Gs ht n _ _⟩
        obtain⟨p,hp,hp2⟩:=List.mem_map.1 h
        have:=F9 ht n _ _ p hp
        simp only at hp2
        omega
      · split
        · refine⟨fun h=>?_,Gs ht n _ _⟩
          obtain⟨p,hp,hp2⟩:=List.mem_map.1 h
          have:=F9 ht n _ _ p hp
          simp only at hp2
          omega
        · simp
    · simp
def NF (st lF turn:Int) (lA:List Int) (n:Nat) (tm s k:Int):Option Int:=Ca (Ci st lF turn lA n tm s) k
theorem P1 {K α:Type} [DecidableEq K]:∀ {l:List (K×α)} {k:K} {x:α},Ca l k=some x→(k,x)∈l
  | [],_,_,h=>by simp [Ca] at h
  | p::r,k,x,h=>by
    rw [Ca] at h
    split at h
    · rename_i hp; cases h; subst hp; simp
    · exact W9 _ (P1 h)
theorem HR {st lF:Int} {turn turn':Int} {lA legs':List Int} (ht:2*lF+1<st) (hl:lA.length=legs'.length) (hle:∀ (k:Nat)(d d':Int),lA[k]? = some d→legs'[k]? = some d'→d≤d') (h1:turn≤turn'):∀ (n:Nat)(tm tm' s k:Int),tm≤tm' →
    (NF st lF turn lA n tm s k=none∧NF st lF turn' legs' n tm' s k=none)∨∃ a b,NF st lF turn lA n tm s k=some a∧NF st lF turn' legs' n tm' s k=some b∧a≤b
  | 0,_,_,_,_,_=>.inl ⟨rfl,rfl⟩
  | n+1,tm,tm',s,k,h=>by
    unfold NF
    rw [Ci,Ci]
    by_cases hc:0≤s∧s<st
    · simp only [hc,and_self,if_true,Ca]
      by_cases hk:s=k
      · simp only [hk,if_true]; exact .inr ⟨_,_,rfl,rfl,h⟩
      · simp only [hk,if_false]
        by_cases hs:s=lF
        · simp only [hs,if_true]
          exact HR ht hl hle h1 n _ _ _ k (by omega)
        · simp only [hs,if_false]
          cases hg:lA[s.toNat]? with
          | none =>
            have:legs'[s.toNat]? = none:=by rw [List.getElem?_eq_none_iff] at hg ⊢; omega
            simp [this,Ca]
          | some d =>
            have hlt:s.toNat<lA.length:=by
              rcases Nat.lt_or_ge s.toNat lA.length with h' | h'
              · exact h'
              · rw [W6 h'] at hg; cases hg
            obtain⟨d',hd'⟩:∃ d',legs'[s.toNat]? = some d':=⟨_,Wy (by omega)⟩
            simp only [hd']
            have:=hle _ _ _ hg hd'
            exact HR ht hl hle h1 n _ _ _ k (by omega)
    · simp only [hc,if_false]; exact .inl ⟨rfl,rfl⟩
open Go Go.RowKit
def CC (r:Af) (f:Rg→Int):Ap:=⟨r.lB.map fun b=>f b.tm,r.lB.map fun _=>f r.turn,List.replicate (r.lB.length+r.lC.length) (r.lA.map f)⟩
theorem NG (r:Af) (f:Rg→Int) (F:Rg→Option Int) (hF:∀ x,F x=some (f x)) (hb:r.lA.length≤20):∀ (n i:Nat)(acc:List Int),r.lA.length<n+i→i≤r.lA.length→acc.length=i→BH n r (HJ.mk F) acc (i:Int)=some (acc++(r.lA.drop i).map f)
  | 0,i,acc,h,hi,_=>by omega
  | n+1,i,acc,h,hi,ha=>by
    rw [BH,BC]
    by_cases hx:i<r.lA.length
    · simp only [hx,decide_true,cond_true,AH _ _ hx,Wz,hF]
      rw [DE _ _ (by simp; omega)]
      simp only [Wz]
      rw [Dc i (by omega),NG r f F hF hb n (i+1) _ (by omega) (by omega) (by simp; omega),AR hx,W0]
      rfl
    · have:i=r.lA.length:=by omega
      simp [this]
theorem Ln (n:Nat) (l:List Int) (h:l.length≤1000):B1 n l=some l:=by
  unfold B1
  simp [DE [] l (by simp; omega)]
theorem Tz (n:Nat) (l:List Bool) (h:l.length≤1000):Cv n l=some l:=by
  unfold Cv
  simp [DE [] l (by simp; omega)]
theorem NH (r:Af) (f:Rg→Int) (F:Rg→Option Int) (hF:∀ x,F x=some (f x)) (hb:r.lB.length≤20) (L:List Int) (hL:L.length≤20):∀ (n i:Nat)(x y:List Int)(z:List (List Int)),r.lB.length<n+i→i≤r.lB.length→x.length=i→y.length=i→z.length=i →
    BI n r (HJ.mk F) L x y z (i:Int)=some (L,x++(r.lB.drop i).map (fun b=>f b.tm),y++(r.lB.drop i).map (fun _=>f r.turn),z++(r.lB.drop i).map (fun _=>L))
  | 0,i,x,y,z,h,hi,_,_,_=>by omega
  | n+1,i,x,y,z,h,hi,h1,h2,h3=>by
    rw [BI,BC]
    by_cases hx:i<r.lB.length
    · simp only [hx,decide_true,cond_true,AH _ _ hx,Wz,hF,Ln n L (by omega)]
      rw [DE _ _ (by simp; omega),DE _ _ (by simp; omega),DE _ _ (by simp; omega)]
      simp only [Wz]
      rw [Dc i (by omega),NH r f F hF hb L hL n (i+1) _ _ _ (by omega) (by omega) (by simp; omega) (by simp; omega) (by simp; omega),AR hx,W0,W0,W0]
      rfl
    · have:i=r.lB.length:=by omega
      simp [this]
theorem NI (r:Af) (hb:r.lC.length≤20) (L:List Int) (hL:L.length≤20):∀ (n i:Nat)(z:List (List Int)),r.lC.length<n+i→i≤r.lC.length→z.length≤100+i →
    BJ n r L z (i:Int)=some (L,z++List.replicate (r.lC.length-i) L)
  | 0,i,z,h,hi,_=>by omega
  | n+1,i,z,h,hi,h3=>by
    rw [BJ,BC]
    by_cases hx:i<r.lC.length
    · simp only [hx,decide_true,cond_true,Wz,Ln n L (by omega)]
      rw [DE _ _ (by simp; omega)]
      simp only [Wz]
      rw [Dc i (by omega),NI r hb L hL n (i+1) _ (by omega) (by omega) (by simp; omega),W0]
      rw [show r.lC.length-i=(r.lC.length-(i+1))+1 by omega,List.replicate_succ]
      rfl
    · have:i=r.lC.length:=by omega
      simp [this]
theorem N3 (n:Nat) (r:Af) (f:Rg→Int) (F:Rg→Option Int) (hF:∀ x,F x=some (f x)) (hn:50≤n) (h1:r.lA.length≤20) (h2:r.lB.length≤20) (h3:r.lC.length≤20):B7 n r (HJ.mk F)=some (CC r f):=by
  unfold B7
  have e1:=NG r f F hF h1 n 0 [] (by omega) (by omega) rfl
  have e2:=NH r f F hF h2 (r.lA.map f) (by simp; omega) n 0 [] [] [] (by omega) (by omega) rfl rfl rfl
  have e3:=NI r h3 (r.lA.map f) (by simp; omega) n 0 (r.lB.map fun _=>r.lA.map f) (by omega) (by omega) (by simp; omega)
  simp only [W1,W2,W3,Nat.sub_zero] at e1 e2 e3
  simp only [e1,Wz,e2,e3,CC,Option.some.injEq,Ap.mk.injEq,true_and]
  rw [List.map_const',List.replicate_append_replicate]
def CI (r:Af) (a:An) (t:Ap) (i:Nat):Bj×A8:=(⟨(r.lB[i]!).stop,t.tm[i]! + a.lD[i]! * r.lI,a.lE[i]!⟩,⟨t.lA[i]!,t.lE[i]!⟩)
def Iv (r:Af) (a:An) (t:Ap) (j:Nat):Option (Bj×A8):=if a.lC[j]! then some (⟨(r.lC[j]!).stop,(r.lC[j]!).tm,-1⟩,⟨t.lA[r.lB.length+j]!,0⟩) else none
def Dx (r:Af) (a:An) (t:Ap):List (Bj×A8):=(List.range r.lB.length).map (CI r a t)++(List.range r.lC.length).filterMap (Iv r a t)
structure P2 (r:Af) (a:An) (t:Ap):Prop where
  nb:r.lB.length≤6
  ns:r.lC.length≤4
  lD:a.lD.length=r.lB.length
  lE:a.lE.length=r.lB.length
  lC:a.lC.length=r.lC.length
  tm:t.tm.length=r.lB.length
  tt:t.lE.length=r.lB.length
  lA:t.lA.length=r.lB.length+r.lC.length
  hold:∀ x∈a.lD,0≤x∧x≤2
  lI:1≤r.lI∧r.lI≤30
  tms:∀ x∈t.tm,0≤x∧x≤10000
theorem BO {α:Type} [Inhabited α] (l:List α) (i:Nat) (h:i<l.length):l[i]! = l[i]:=getElem!_pos l i h
theorem Mi {x u:Int} (h0:0≤x) (h1:x≤2) (h2:1≤u) (h3:u≤30):0≤x*u∧x*u≤60:=by
  have:x=0∨x=1∨x=2:=by omega
  rcases this with rfl | rfl | rfl <;> omega
theorem M9 (r:Af) (a:An) (t:Ap) (S:P2 r a t):∀ (n i:Nat)(x:List Bj)(y:List A8),r.lB.length<n+i→i≤r.lB.length→x.length=i→y.length=i →
    Br n ⟨r,a⟩ t x y (i:Int)=some (x++((List.range r.lB.length).drop i).map (fun i=>(CI r a t i).1),y++((List.range r.lB.length).drop i).map (fun i=>(CI r a t i).2))
  | 0,i,x,y,h,hi,_,_=>by omega
  | n+1,i,x,y,h,hi,h1,h2=>by
    rw [Br]
    simp only []
    rw [BC]
    have:=S.nb
    by_cases hx:i<r.lB.length
    · have q1:i<a.lD.length:=by rw [S.lD]; exact hx
      have q2:i<a.lE.length:=by rw [S.lE]; exact hx
      have q3:i<t.tm.length:=by rw [S.tm]; exact hx
      have q4:i<t.lE.length:=by rw [S.tt]; exact hx
      have q5:i<t.lA.length:=by rw [S.lA]; omega
      have q6:i<(List.range r.lB.length).length:=by simpa using hx
      obtain⟨b1,b2⟩:=Mi (S.hold _ (W5 q1)).1 (S.hold _ (W5 q1)).2 S.lI.1 S.lI.2
      have b3:=S.tms _ (W5 q3)
      simp only [hx,decide_true,cond_true,AH _ _ hx,AH _ _ q1,AH _ _ q2,AH _ _ q3,AH _ _ q4,AH _ _ q5,Wz]
      rw [DE _ _ (by simp; omega),DE _ _ (by simp; omega)]
      simp only [Wz]
      rw [Dc i (by omega),M9 r a t S n (i+1) _ _ (by omega) (by omega) (by simp; omega) (by simp; omega),AR q6,W0,W0]
      rw [G9 (x:=a.lD[i]*r.lI) (by omega) (by omega),G9 (by omega) (by omega)]
      simp only [WA,W8,CI,BO _ _ hx,BO _ _ q1,BO _ _ q2,BO _ _ q3,BO _ _ q4,BO _ _ q5]
      rfl
    · have:i=r.lB.length:=by omega
      simp [this]
theorem Jn (r:Af) (a:An) (t:Ap) (S:P2 r a t):∀ (n i:Nat)(x:List Bj)(y:List A8),r.lC.length<n+i→i≤r.lC.length→x.length≤100+i→y.length≤100+i →
    Bg n ⟨r,a⟩ t x y (i:Int)=some (x++(((List.range r.lC.length).drop i).filterMap (Iv r a t)).map Prod.fst,y++(((List.range r.lC.length).drop i).filterMap (Iv r a t)).map Prod.snd)
  | 0,i,x,y,h,hi,_,_=>by omega
  | n+1,i,x,y,h,hi,h1,h2=>by
    rw [Bg]
    simp only []
    rw [BC]
    have:=S.ns
    have:=S.nb
    by_cases hx:i<r.lC.length
    · have q1:i<a.lC.length:=by rw [S.lC]; exact hx
      have q5:r.lB.length+i<t.lA.length:=by rw [S.lA]; omega
      have q6:i<(List.range r.lC.length).length:=by simpa using hx
      simp only [hx,decide_true,cond_true,AH _ _ hx,AH _ _ q1,Wz]
      rw [AR q6]
      simp only [WA,WB,Iv,BO _ _ hx,BO _ _ q1,BO _ _ q5]
      cases hs:a.lC[i] with
      | true =>
        simp only [cond_true,if_true]
        rw [DE _ _ (by simp; omega)]
        simp only [Wz]
        rw [G9 (x:=((r.lB.length:Nat):Int)+(i:Int)) (by omega) (by omega),show((r.lB.length:Nat):Int)+(i:Int)=((r.lB.length+i:Nat):Int) by omega,AH _ _ q5]
        simp only [Wz]
        rw [DE _ _ (by simp; omega)]
        simp only [Wz]
        rw [Dc i (by omega),Jn r a t S n (i+1) _ _ (by omega) (by omega) (by simp; omega) (by simp; omega),W0,W0]
        rfl
      | false =>
        simp only [cond_false]
        rw [Dc i (by omega),Jn r a t S n (i+1) _ _ (by omega) (by omega) (by omega) (by omega)]
        rfl
    · have:i=r.lC.length:=by omega
      have hd:(List.range r.lC.length).drop r.lC.length=[]:=WC (by simp)
      simp [this,hd]
theorem NJ (n:Nat) (r:Af) (a:An) (t:Ap) (S:P2 r a t) (hn:50≤n):BQ n ⟨r,a⟩ t=some ((Dx r a t).map Prod.fst,(Dx r a t).map Prod.snd):=by
  have:=S.nb
  have:=S.ns
  have e1:=M9 r a t S n 0 [] [] (by omega) (by omega) rfl rfl
  have e2:=Jn r a t S n 0 ((List.range r.lB.length).map fun i=>(CI r a t i).1) ((List.range r.lB.length).map fun i=>(CI r a t i).2) (by omega) (by omega) (by simp; omega) (by simp; omega)
  simp only [W1,W2,W3] at e1 e2
  unfold BQ
  simp only [e1,Wz,e2,Dx,List.map_append,List.map_map]
  rfl
open Go Go.RowKit
def MA (ms:List (List (Int×Rg))) (f:Int→List (Int×Rg)→List (Int×Rg)) (pl:List (Int×Int)):List (List (Int×Rg)):=pl.foldl (fun ms p=>ms.modify p.1.toNat (f p.2)) ms
theorem GL (f:Int→List (Int×Rg)→List (Int×Rg)):∀ (pl:List (Int×Int))(ms:List (List (Int×Rg))),(MA ms f pl).length=ms.length
  | [],_=>rfl
  | p::r,ms=>by
    show(MA (ms.modify p.1.toNat (f p.2)) f r).length=_
    rw [GL f r]; simp
theorem Mj (f:Int→List (Int×Rg)→List (Int×Rg)):∀ (pl:List (Int×Int))(ms:List (List (Int×Rg)))(k:Nat),(pl.map Prod.fst).Nodup→(∀ p∈pl,0≤p.1) →
    (MA ms f pl)[k]? = (ms[k]?).map fun m=>match Ca pl (k:Int) with | some t=>f t m | none=>m
  | [],ms,k,_,_=>by simp [MA,Ca]
  | p::r,ms,k,hn,h0=>by
    show(MA (ms.modify p.1.toNat (f p.2)) f r)[k]? = _
    rw [W8,List.nodup_cons] at hn
    rw [Mj f r _ k hn.2 (fun q hq=>h0 q (W9 _ hq)),List.getElem?_modify,Ca]
    have hp:=h0 p (by simp)
    by_cases hk:p.1=(k:Int)
    · have hr:Ca r (k:Int)=none:=KV fun q hq hqk=>hn.1 (by rw [hk,← hqk]; exact WD hq)
      have:p.1.toNat=k:=by omega
      simp only [this,if_true,if_pos hk,hr]
      cases ms[k]? <;> rfl
    · have:p.1.toNat≠k:=by omega
      simp only [this,hk,if_false]
      cases ms[k]? <;> rfl
theorem Mk (g:List (Option (List (Int×Rg)))→Int→Int→Option (List (Option (List (Int×Rg))))) (f:Int→List (Int×Rg)→List (Int×Rg)) (st:Nat)
    (hg:∀ (ms:List (List (Int×Rg)))(s:Nat)(t:Int),ms.length=st→s<st→g (ms.map some) (s:Int) t=some ((ms.modify s (f t)).map some)):∀ (pl:List (Int×Int))(ms:List (List (Int×Rg))),ms.length=st→(∀ p∈pl,0≤p.1∧p.1<(st:Int)) →
    pl.foldlM (fun x p=>g x p.1 p.2) (ms.map some)=some ((MA ms f pl).map some)
  | [],ms,_,_=>rfl
  | p::r,ms,hm,hp=>by
    have h1:=hp p (by simp)
    rw [W4]
    have:g (ms.map some) p.1 p.2=some ((ms.modify p.1.toNat (f p.2)).map some):=by
      have:=hg ms p.1.toNat p.2 hm (by omega)
      rwa [show((p.1.toNat:Nat):Int)=p.1 by omega] at this
    rw [this]
    exact Mk g f st hg r _ (by simpa using hm) fun q hq=>hp q (W9 _ hq)
theorem IT {α:Type} (f:α→α):∀ (ms:List α)(s:Nat),(h:s<ms.length)→(ms.map some).set s (some (f ms[s]))=(ms.modify s f).map some:=by
  intro ms s h
  apply List.ext_getElem?
  intro k
  rw [WE,List.getElem?_modify,List.getElem?_set]
  by_cases hk:s=k
  · subst hk; simp [h]
  · simp [hk]
def CM (st:Int) (n:Nat) (p:(Bj×A8)×(Bj×A8)) (k:Int):Option Rg:=match Ca (Ci st p.1.1.lF p.1.2.turn p.1.2.lA n p.1.1.tm p.1.1.stop) k,Ca (Ci st p.2.1.lF p.2.2.turn p.2.2.lA n p.2.1.tm p.2.1.stop) k with
  | some a,some b=>some ⟨a,b⟩
  | _,_=>none
def Wc (st:Int) (n:Nat) (p:(Bj×A8)×(Bj×A8)):Prop:=∀ k,Ca (Ci st p.1.1.lF p.1.2.turn p.1.2.lA n p.1.1.tm p.1.1.stop) k=none↔Ca (Ci st p.2.1.lF p.2.2.turn p.2.2.lA n p.2.1.tm p.2.1.stop) k=none
structure Ga (r:Af) (p:Bj×A8):Prop where
  q:TY p.2.turn p.2.lA
  len:p.2.lA.length=r.lA.length
  t:2*p.1.lF+1<(r.lA.length:Int)+1
  tm0:0≤p.1.tm
  tm1:p.1.tm≤100000
  s0:0≤p.1.stop
  s1:p.1.stop≤(r.lA.length:Int)+1
theorem QZ {K α:Type} [DecidableEq K]:∀ {l:List (K×α)} {k:K} (x:α),(∀ p∈l,p.1≠k)→FP l k x=l++[(k,x)]
  | [],_,_,_=>rfl
  | p::r,k,x,h=>by
    rw [FP,if_neg (h p (by simp)),QZ x fun q hq=>h q (W9 _ hq)]
    rfl
theorem Ra {K α:Type} [DecidableEq K]:∀ {l:List (K×α)} {k:K} (x y:α),(∀ p∈l,p.1≠k)→FP (l++[(k,x)]) k y=l++[(k,y)]
  | [],k,x,y,_=>by simp [FP]
  | p::r,k,x,y,h=>by
    rw [List.cons_append,FP,if_neg (h p (by simp)),Ra x y fun q hq=>h q (W9 _ hq)]
    rfl
theorem NK {K α:Type} [DecidableEq K]:∀ {l:List (K×α)} {k:K} (x:α),(∀ p∈l,p.1≠k)→Ca (l++[(k,x)]) k=some x
  | [],k,x,_=>by simp [Ca]
  | p::r,k,x,h=>by
    rw [List.cons_append,Ca,if_neg (h p (by simp)),NK x fun q hq=>h q (W9 _ hq)]
def g1 (i:Int) (s:List (Option (List (Int×Rg)))) (a b:Int):Option (List (Option (List (Int×Rg)))):=(Cm s a).bind fun x66=>x66.bind fun m=>(upd s a (some (FP m i (Rg.mk b b)))).bind fun u=>some u
def g2 (i:Int) (s:List (Option (List (Int×Rg)))) (a b:Int):Option (List (Option (List (Int×Rg)))):=(Cm s a).bind fun x87=>(Cm s a).bind fun x92=>x92.bind fun m_514=>x87.bind fun m_527=>(upd s a (some (FP m_527 i (Rg.mk (Fb m_514 i ((Rg.mk 0 0):Rg)).1.lo b)))).bind fun u=>some u
theorem Wd (i:Int) (st:Nat) (ms:List (List (Int×Rg))) (s:Nat) (t:Int) (h1:ms.length=st) (h2:s<st):g1 i (ms.map some) (s:Int) t=some ((ms.modify s (fun m=>FP m i (Rg.mk t t))).map some):=by
  have hs:s<ms.length:=by omega
  unfold g1
  rw [AH _ s (by simpa using hs)]
  simp only [Wz,WF]
  rw [NE _ s _ (by simpa using hs)]
  simp only [Wz]
  rw [IT (fun m=>FP m i (Rg.mk t t)) ms s hs]
theorem We (i:Int) (st:Nat) (ms:List (List (Int×Rg))) (s:Nat) (t:Int) (h1:ms.length=st) (h2:s<st):g2 i (ms.map some) (s:Int) t=some ((ms.modify s (fun m=>FP m i (Rg.mk (Fb m i ((Rg.mk 0 0):Rg)).1.lo t))).map some):=by
  have hs:s<ms.length:=by omega
  unfold g2
  rw [AH _ s (by simpa using hs)]
  simp only [Wz,WF]
  rw [NE _ s _ (by simpa using hs)]
  simp only [Wz]
  rw [IT (fun m=>FP m i (Rg.mk (Fb m i ((Rg.mk 0 0):Rg)).1.lo t)) ms s hs]
theorem HF {α:Type} (x:Option α):(x.bind fun s1=>some (s1,true))=x.map fun s'=>(s',true):=by cases x <;> rfl
def AG (st:Int) (n:Nat) (k:Int):Nat→List ((Bj×A8)×(Bj×A8))→List (Int×Rg)
  | _,[]=>[]
  | i,p::r=>match CM st n p k with
    | some x=>((i:Int),x)::AG st n k (i+1) r
    | none=>AG st n k (i+1) r
theorem MB (w:AM) (lo hi:List (Bj×A8)) (hl:w.lH.lA.length≤20) (hlen:lo.length=hi.length) (h1:∀ p∈lo,Ga w.lH p) (h2:∀ p∈hi,Ga w.lH p) (N:Nat) (hN:60≤N) (hN2:N≤1000) (h20:lo.length≤20)
    (hA:∀ n,30≤n→n≤1000→∀ p∈lo.zip hi,Wc ((w.lH.lA.length:Int)+1) n p∧∀ k,CM ((w.lH.lA.length:Int)+1) n p k=CM ((w.lH.lA.length:Int)+1) 40 p k):∀ (n i:Nat)(ms:List (List (Int×Rg))),lo.length+30<n+i→n≤1000→i≤lo.length→ms.length=w.lH.lA.length+1→(∀ m∈ms,∀ p∈m,p.1<(i:Int)) →
    Bt n w (lo.map Prod.fst,lo.map Prod.snd) (hi.map Prod.fst,hi.map Prod.snd) (ms.map some) (i:Int)=some (((List.range (w.lH.lA.length+1)).map fun(k:Nat)=>(ms[k]?.getD [])++AG ((w.lH.lA.length:Int)+1) 40 k i ((lo.zip hi).drop i)).map some)
  | 0,i,ms,h,_,hi',_,_=>by omega
  | n+1,i,ms,h,hn,hi',hm,hkeys=>by
    rw [Bt]
    simp only []
    rw [BC,WG]
    by_cases hx:i<lo.length
    · have hxh:i<hi.length:=by omega
      have hz:i<(lo.zip hi).length:=by simp; omega
      have o1:=h1 _ (W5 hx)
      have o2:=h2 _ (W5 hxh)
      have hmem:(lo[i],hi[i])∈lo.zip hi:=by
        have:=W5 hz
        rwa [List.getElem_zip] at this
      obtain⟨hAl,hSp⟩:=hA n (by omega) (by omega) _ hmem
      simp only [hx,decide_true,cond_true]
      rw [AH _ i (by simpa using hx),AH _ i (by simpa using hx),AH _ i (by simpa using hxh),AH _ i (by simpa using hxh)]
      simp only [Wz,WF,BR]
      show((AW n (fun s a b=>(g1 i s a b).bind fun s1=>some (s1,true)) _ _ _ _).bind _)=_
      rw [Mh n _ (g1 i) (fun s a b=>HF (g1 i s a b)) _ _ _ _ hl o1.q o1.len o1.t o1.tm0 o1.tm1 (by omega) (by omega) o1.s0 o1.s1]
      rw [Mk (g1 i) _ (w.lH.lA.length+1) (Wd i _) _ _ hm (fun p hp=>by
          have:=F9 o1.t n _ _ p hp
          constructor <;> omega)]
      simp only [Wz]
      show((AW n (fun s a b=>(g2 i s a b).bind fun s1=>some (s1,true)) _ _ _ _).bind _)=_
      rw [Mh n _ (g2 i) (fun s a b=>HF (g2 i s a b)) _ _ _ _ hl o2.q o2.len o2.t o2.tm0 o2.tm1 (by omega) (by omega) o2.s0 o2.s1]
      rw [Mk (g2 i) _ (w.lH.lA.length+1) (We i _) _ _ (by rw [GL]; exact hm) (fun p hp=>by
          have:=F9 o2.t n _ _ p hp
          constructor <;> omega)]
      simp only [Wz]
      rw [Dc i (by omega)]
      -- each stop's map
      have hget:∀ k:Nat,(MA (MA ms (fun t m=>FP m (i:Int) (Rg.mk t t)) (Ci ((w.lH.lA.length:Int)+1) lo[i].1.lF lo[i].2.turn lo[i].2.lA n lo[i].1.tm lo[i].1.stop)) (fun t m=>FP m (i:Int) (Rg.mk (Fb m (i:Int) ((Rg.mk 0 0):Rg)).1.lo t)) (Ci ((w.lH.lA.length:Int)+1) hi[i].1.lF hi[i].2.turn hi[i].2.lA n hi[i].1.tm hi[i].1.stop))[k]? = (ms[k]?).map fun m=>m++(match CM ((w.lH.lA.length:Int)+1) 40 (lo[i],hi[i]) k with | some x=>[((i:Int),x)] | none=>[]):=fun k=>by
        rw [Mj _ _ _ k (Gs o2.t n _ _) (fun p hp=>(F9 o2.t n _ _ p hp).2.1),Mj _ _ _ k (Gs o1.t n _ _) (fun p hp=>(F9 o1.t n _ _ p hp).2.1),← hSp]
        cases hmk:ms[k]? with
        | none=>rfl
        | some m =>
          have hk:∀ p∈m,p.1≠(i:Int):=fun p hp=>by
            have:=hkeys m (WH hmk) p hp
            omega
          have hal:=hAl k
          simp only [] at hal
          simp only [Option.map_some,CM]
          cases hlo:Ca (Ci ((w.lH.lA.length:Int)+1) lo[i].1.lF lo[i].2.turn lo[i].2.lA n lo[i].1.tm lo[i].1.stop) (k:Int) with
          | none =>
            rw [hal.1 hlo]
            simp
          | some a =>
            cases hhi:Ca (Ci ((w.lH.lA.length:Int)+1) hi[i].1.lF hi[i].2.turn hi[i].2.lA n hi[i].1.tm hi[i].1.stop) (k:Int) with
            | none=>rw [hal.2 hhi] at hlo; cases hlo
            | some b =>
              simp only [QZ _ hk,Ra _ _ hk,Fb,NK _ hk]
      rw [MB w lo hi hl hlen h1 h2 N hN hN2 h20 hA n (i+1) _ (by omega) (by omega) (by omega) (by rw [GL,GL]; exact hm) (fun m hm' p hp=>by
        obtain⟨k,hk⟩:=List.mem_iff_getElem?.1 hm'
        rw [hget k] at hk
        obtain⟨m0,h3,rfl⟩:=Option.map_eq_some_iff.1 hk
        rcases List.mem_append.1 hp with hp | hp
        · have:=hkeys m0 (WH h3) p hp
          omega
        · split at hp
          · simp at hp; subst hp; simp only; omega
          · simp at hp)]
      congr 2
      apply WI
      intro k hk
      rw [WJ] at hk
      rw [hget k,AR hz,List.getElem_zip]
      have hkm:k<ms.length:=by omega
      rw [Wy hkm]
      simp only [Option.map_some,Option.getD_some,AG]
      cases CM ((w.lH.lA.length:Int)+1) 40 (lo[i],hi[i]) (k:Int) with
      | none=>simp
      | some x=>simp
    · have hxe:i=lo.length:=by omega
      have hd:(lo.zip hi).drop i=[]:=WC (by simp; omega)
      simp only [hx,decide_false,cond_false,hd,AG,List.append_nil,Option.some.injEq]
      congr 1
      apply List.ext_getElem?
      intro k
      rw [WE]
      by_cases hk:k<w.lH.lA.length+1
      · rw [WK hk,Wy (by omega)]
        simp
        rw [Wy (by omega)]
        rfl
      · rw [W6 (by omega),W6 (by simp; omega)]
        rfl
open Go Go.RowKit
def Ez (x:Rg) (m:Int):Bool:=decide (0≤x.lo∧x.lo≤x.hi∧x.hi≤m)
def Lo (r:Af) (b:CW):Bool:=decide (0≤b.stop∧b.stop≤(r.lA.length:Int)) && Ez b.tm 2000
def GM (r:Af) (s:AK):Bool:=decide (0≤s.stop∧s.stop≤(r.lA.length:Int)) && decide (0≤s.tm∧s.tm≤2000)
def Qq (r:Af):Bool:=decide (r.lA.length % 2=1∧r.lA.length≤7) && Ez r.turn 300 && decide (1≤r.lI∧r.lI≤30) && decide (0≤r.gap∧r.gap≤2000) && decide (0≤r.fr∧r.fr≤r.to_∧r.to_≤2000) && r.lA.all (fun x=>Ez x 300) && r.lB.all (Lo r) && r.lC.all (GM r)
def CX (r:Af):Int:=if r.lB.length>4∨r.lC.length>2 then 3 else if Qq r then 0 else 1
theorem Gb (n:Nat) (x a b:Int):Fg n x a b=some (decide (a≤x∧x≤b)):=by
  unfold Fg
  by_cases h:a≤x <;> simp [h]
theorem Gc (n:Nat) (x a b:Int):Bq n x a b=some (decide (a≤x∧x≤b)):=by
  unfold Bq
  by_cases h:a≤x <;> simp [h]
theorem Jo (n:Nat) (x:Rg) (m:Int):Hi n x m=some (Ez x m):=by
  unfold Hi Ez
  rw [Gb]
  by_cases h:0≤x.lo∧x.lo≤x.hi
  · simp [h]
  · simp only [h,decide_false,Wz,cond_false,Option.some.injEq]
    symm; rw [decide_eq_false_iff_not]; omega
theorem SL (n:Nat) (x:Rg) (m:Int):C8 n x m=some (Ez x m):=by
  unfold C8 Ez
  by_cases h:0≤x.lo <;> by_cases h2:x.lo≤x.hi <;> simp [h,h2]
theorem Rb (n:Nat) (x:Rg):BB n x=some (Ez x 300):=by
  unfold BB; rw [SL]; rfl
theorem P3 (n:Nat) (x:Int):CF n x=some (decide (0≤x∧x≤2000)):=by
  unfold CF; rw [Gc]; rfl
theorem GN (n:Nat) (r:Af) (h:r.lA.length≤20):F0 n r=some ((r.lA.length:Int)+1):=by
  unfold F0; rw [G9 (by omega) (by omega)]
theorem MC (r:Af) (hb:r.lA.length≤20):∀ (n i:Nat),r.lA.length<n+i→i≤r.lA.length→Eb n r (i:Int)=some (if (r.lA.drop i).all (fun x=>Ez x 300) then Ex.go () else Ex.ret 1)
  | 0,i,h,hi=>by omega
  | n+1,i,h,hi=>by
    rw [Eb,BC]
    by_cases hx:i<r.lA.length
    · simp only [hx,decide_true,cond_true,AH _ _ hx,Wz,Jo]
      rw [AR hx,WL]
      cases Ez r.lA[i] 300 with
      | true=>simp only [WM,cond_false,WN]; rw [Dc i (by omega),MC r hb n (i+1) (by omega) (by omega)]
      | false=>rfl
    · have:i=r.lA.length:=by omega
      simp [this]
theorem MD (r:Af) (hl:r.lA.length≤20) (hb:r.lB.length≤20):∀ (n i:Nat),r.lB.length<n+i→i≤r.lB.length→Ec n r (i:Int)=some (if (r.lB.drop i).all (Lo r) then Ex.go () else Ex.ret 1)
  | 0,i,h,hi=>by omega
  | n+1,i,h,hi=>by
    rw [Ec,BC]
    by_cases hx:i<r.lB.length
    · simp only [hx,decide_true,cond_true,AH _ _ hx,Wz,Jo,GN n r hl,Gb]
      rw [AR hx,WL,G9 (x:=(r.lA.length:Int)+1-1) (by omega) (by omega),show(r.lA.length:Int)+1-1=r.lA.length by omega]
      unfold Lo
      by_cases h1:0≤(r.lB[i]).stop∧(r.lB[i]).stop≤(r.lA.length:Int)
      · simp only [h1,and_self,decide_true,WM,cond_false,WN]
        cases Ez (r.lB[i]).tm 2000 with
        | true =>
          simp only [WM,cond_false,WN]; rw [Dc i (by omega),MD r hl hb n (i+1) (by omega) (by omega)]
          rfl
        | false=>rfl
      · simp only [h1,decide_false,Bool.not_false,cond_true,WO]
        rfl
    · have:i=r.lB.length:=by omega
      simp [this]
theorem ME (r:Af) (hl:r.lA.length≤20) (hb:r.lC.length≤20):∀ (n i:Nat),r.lC.length<n+i→i≤r.lC.length→Ed n r (i:Int)=some (if (r.lC.drop i).all (GM r) then Ex.go () else Ex.ret 1)
  | 0,i,h,hi=>by omega
  | n+1,i,h,hi=>by
    rw [Ed,BC]
    by_cases hx:i<r.lC.length
    · simp only [hx,decide_true,cond_true,AH _ _ hx,Wz,GN n r hl,Gb]
      rw [AR hx,WL,G9 (x:=(r.lA.length:Int)+1-1) (by omega) (by omega),show(r.lA.length:Int)+1-1=r.lA.length by omega]
      unfold GM
      by_cases h1:0≤(r.lC[i]).stop∧(r.lC[i]).stop≤(r.lA.length:Int)
      · simp only [h1,and_self,decide_true,WM,cond_false,WN]
        by_cases h2:0≤(r.lC[i]).tm∧(r.lC[i]).tm≤2000
        · simp only [h2,and_self,decide_true,WM,cond_false,WN]; rw [Dc i (by omega),ME r hl hb n (i+1) (by omega) (by omega)]
          rfl
        · simp only [h2,decide_false,Bool.not_false,cond_true,WO]
          rfl
      · simp only [h1,decide_false,Bool.not_false,cond_true,WO]
        rfl
    · have:i=r.lC.length:=by omega
      simp [this]
theorem V0 (k:Nat) (h:k≤1000):Int.tmod ((k:Nat):Int) 2=((k % 2:Nat):Int):=rfl
theorem Qr (n:Nat) (r:Af) (hn:50≤n) (h1:r.lA.length≤20) (h2:r.lB.length≤20) (h3:r.lC.length≤20):HU n r=some (CX r):=by
  unfold HU CX
  have e1:=MC r h1 n 0 (by omega) (by omega)
  have e2:=MD r h1 h2 n 0 (by omega) (by omega)
  have e3:=ME r h1 h3 n 0 (by omega) (by omega)
  simp only [W1,W3] at e1 e2 e3
  simp only [Jo,Gb,e1,e2,e3,Wz,V0 _ (show r.lA.length≤1000 by omega)]
  by_cases a1:r.lB.length>4
  · have a1':decide (((r.lB.length:Nat):Int)>4)=true:=by simp; omega
    simp only [a1',a1,cond_true,Wz,true_or,if_true]
  have a1':decide (((r.lB.length:Nat):Int)>4)=false:=by simp; omega
  by_cases a2:r.lC.length>2
  · have a2':decide (((r.lC.length:Nat):Int)>2)=true:=by simp; omega
    simp only [a1',a2',a2,cond_true,cond_false,Wz,or_true,if_true]
  have a2':decide (((r.lC.length:Nat):Int)>2)=false:=by simp; omega
  simp only [a1',a2',cond_false,Wz,a1,a2,or_self,if_false]
  unfold Qq
  by_cases b1 : ¬ (r.lA.length % 2=1)
  · have:r.lA.length % 2=0:=by omega
    simp [this]
  replace b1:=Decidable.not_not.1 b1
  have b1':(((r.lA.length % 2:Nat):Int) == 0)=false:=by rw [b1]; rfl
  by_cases b2 : ¬ (r.lA.length≤7)
  · have b2':decide (((r.lA.length:Nat):Int)>7)=true:=by simp; omega
    simp only [b1',b2',b2,and_false,decide_false,WO,cond_false,cond_true,Wz]
    rfl
  replace b2:=Decidable.not_not.1 b2
  have b2':decide (((r.lA.length:Nat):Int)>7)=false:=by simp; omega
  simp only [b1',b2',cond_false,b1,b2,and_self,decide_true,WN]
  cases Ez r.turn 300
  · simp
  simp only [WM,cond_false,WN]
  by_cases b3 : ¬ (1≤r.lI∧r.lI≤30)
  · simp [b3]
  replace b3:=Decidable.not_not.1 b3
  simp only [b3,and_self,decide_true,WM,cond_false,Wz,WN]
  by_cases b4 : ¬ (0≤r.gap∧r.gap≤2000)
  · simp [b4]
  replace b4:=Decidable.not_not.1 b4
  simp only [b4,and_self,decide_true,WM,cond_false,Wz,WN]
  by_cases b5 : ¬ (0≤r.fr∧r.fr≤r.to_)
  · simp only [b5,decide_false,Bool.not_false,cond_true,Wz]
    have : ¬ (0≤r.fr∧r.fr≤r.to_∧r.to_≤2000):=fun h=>b5 ⟨h.1,h.2.1⟩
    simp [this]
  replace b5:=Decidable.not_not.1 b5
  simp only [b5,and_self,decide_true,WM,cond_false,Wz]
  by_cases b6 : ¬ (r.to_≤2000)
  · have : ¬ (0≤r.fr∧r.fr≤r.to_∧r.to_≤2000):=fun h=>b6 h.2.2
    have b6':decide (r.to_>2000)=true:=by simp; omega
    simp only [b6,b6',and_false,decide_false,WO,cond_true,Wz]
    rfl
  replace b6:=Decidable.not_not.1 b6
  have b6':decide (r.to_>2000)=false:=by simp; omega
  simp only [b6',b6,b5,and_self,decide_true,cond_false,WN]
  cases r.lA.all (fun x=>Ez x 300)
  · rfl
  cases r.lB.all (Lo r)
  · rfl
  cases r.lC.all (GM r)
  · rfl
  rfl
theorem IU (l:List Rg) (F:Rg→Option Bool) (p:Rg→Bool) (hF:∀ x,F x=some (p x)) (hb:l.length≤20):∀ (n i:Nat),l.length<n+i→i≤l.length→∃ e,As n l F (i:Int)=some e∧((∃ k:Nat,e=Ex.ret (k:Int))∧(l.drop i).any p=true∨e=Ex.go ()∧(l.drop i).any p=false)
  | 0,i,h,hi=>by omega
  | n+1,i,h,hi=>by
    rw [As,BC]
    by_cases hx:i<l.length
    · simp only [hx,decide_true,cond_true,AH _ _ hx,Wz,hF]
      rw [AR hx,List.any_cons]
      cases p l[i] with
      | true=>exact⟨_,rfl,.inl ⟨⟨i,rfl⟩,rfl⟩⟩
      | false=>simp only [cond_false,Bool.false_or]; rw [Dc i (by omega)]; exact IU l F p hF hb n (i+1) (by omega) (by omega)
    · have:i=l.length:=by omega
      exact⟨Ex.go (),by simp [this],.inr ⟨rfl,by simp [this]⟩⟩
theorem T0 (n:Nat) (hn:50≤n) (l:List Rg) (F:Rg→Option Bool) (p:Rg→Bool) (hF:∀ x,F x=some (p x)) (hb:l.length≤20):BW n l F=some (l.all p):=by
  unfold BW AE AN
  obtain⟨e,he,h⟩:=IU l (fun y0=>AU n y0 F) (fun x=>!p x) (fun x=>by simp [AU,hF]) hb n 0 (by omega) (by omega)
  simp only [W1,W3] at he h
  rw [he]
  have hall:l.all p=!(l.any fun x=>!p x):=by rw [List.not_any_eq_all_not]; simp
  rcases h with⟨⟨k,rfl⟩,h⟩ | ⟨rfl,h⟩
  · rw [hall,h]
    simp [Ex.bind]
  · rw [hall,h]
    simp [Ex.bind]
theorem HS (l:List CW) (F:CW→Option Bool) (p:CW→Bool) (hF:∀ x,F x=some (p x)) (hb:l.length≤20):∀ (n i:Nat),l.length<n+i→i≤l.length→∃ e,A1 n l F (i:Int)=some e∧((∃ k:Nat,e=Ex.ret (k:Int))∧(l.drop i).any p=true∨e=Ex.go ()∧(l.drop i).any p=false)
  | 0,i,h,hi=>by omega
  | n+1,i,h,hi=>by
    rw [A1,BC]
    by_cases hx:i<l.length
    · simp only [hx,decide_true,cond_true,AH _ _ hx,Wz,hF]
      rw [AR hx,List.any_cons]
      cases p l[i] with
      | true=>exact⟨_,rfl,.inl ⟨⟨i,rfl⟩,rfl⟩⟩
      | false=>simp only [cond_false,Bool.false_or]; rw [Dc i (by omega)]; exact HS l F p hF hb n (i+1) (by omega) (by omega)
    · have:i=l.length:=by omega
      exact⟨Ex.go (),by simp [this],.inr ⟨rfl,by simp [this]⟩⟩
theorem Sl (n:Nat) (hn:50≤n) (l:List CW) (F:CW→Option Bool) (p:CW→Bool) (hF:∀ x,F x=some (p x)) (hb:l.length≤20):Cn n l F=some (l.all p):=by
  unfold Cn AQ Bf
  obtain⟨e,he,h⟩:=HS l (fun y0=>Bm n y0 F) (fun x=>!p x) (fun x=>by simp [Bm,hF]) hb n 0 (by omega) (by omega)
  simp only [W1,W3] at he h
  rw [he]
  have hall:l.all p=!(l.any fun x=>!p x):=by rw [List.not_any_eq_all_not]; simp
  rcases h with⟨⟨k,rfl⟩,h⟩ | ⟨rfl,h⟩
  · rw [hall,h]
    simp [Ex.bind]
  · rw [hall,h]
    simp [Ex.bind]
theorem GZ (l:List AK) (F:AK→Option Bool) (p:AK→Bool) (hF:∀ x,F x=some (p x)) (hb:l.length≤20):∀ (n i:Nat),l.length<n+i→i≤l.length→∃ e,At n l F (i:Int)=some e∧((∃ k:Nat,e=Ex.ret (k:Int))∧(l.drop i).any p=true∨e=Ex.go ()∧(l.drop i).any p=false)
  | 0,i,h,hi=>by omega
  | n+1,i,h,hi=>by
    rw [At,BC]
    by_cases hx:i<l.length
    · simp only [hx,decide_true,cond_true,AH _ _ hx,Wz,hF]
      rw [AR hx,List.any_cons]
      cases p l[i] with
      | true=>exact⟨_,rfl,.inl ⟨⟨i,rfl⟩,rfl⟩⟩
      | false=>simp only [cond_false,Bool.false_or]; rw [Dc i (by omega)]; exact GZ l F p hF hb n (i+1) (by omega) (by omega)
    · have:i=l.length:=by omega
      exact⟨Ex.go (),by simp [this],.inr ⟨rfl,by simp [this]⟩⟩
theorem Qs (n:Nat) (hn:50≤n) (l:List AK) (F:AK→Option Bool) (p:AK→Bool) (hF:∀ x,F x=some (p x)) (hb:l.length≤20):BX n l F=some (l.all p):=by
  unfold BX AF AO
  obtain⟨e,he,h⟩:=GZ l (fun y0=>AV n y0 F) (fun x=>!p x) (fun x=>by simp [AV,hF]) hb n 0 (by omega) (by omega)
  simp only [W1,W3] at he h
  rw [he]
  have hall:l.all p=!(l.any fun x=>!p x):=by rw [List.not_any_eq_all_not]; simp
  rcases h with⟨⟨k,rfl⟩,h⟩ | ⟨rfl,h⟩
  · rw [hall,h]
    simp [Ex.bind]
  · rw [hall,h]
    simp [Ex.bind]
theorem Sm (n:Nat) (b:CW) (r:Af) (h:r.lA.length≤20):BD n b r=some (Lo r b):=by
  unfold BD Lo
  rw [GA n r _ h,SL]
  by_cases h1:0≤b.stop∧b.stop≤(r.lA.length:Int)
  · have:0≤b.stop∧b.stop<(r.lA.length:Int)+1:=⟨h1.1,by omega⟩
    simp [h1,this]
  · have : ¬ (0≤b.stop∧b.stop<(r.lA.length:Int)+1):=fun h=>h1 ⟨h.1,by omega⟩
    simp only [this,h1,decide_false,Wz,cond_false,WO]
theorem Sn (n:Nat) (b:AK) (r:Af) (h:r.lA.length≤20):BE n b r=some (GM r b):=by
  unfold BE GM
  rw [GA n r _ h,P3]
  by_cases h1:0≤b.stop∧b.stop≤(r.lA.length:Int)
  · have:0≤b.stop∧b.stop<(r.lA.length:Int)+1:=⟨h1.1,by omega⟩
    simp [h1,this]
  · have : ¬ (0≤b.stop∧b.stop<(r.lA.length:Int)+1):=fun h=>h1 ⟨h.1,by omega⟩
    simp only [this,h1,decide_false,Wz,cond_false,WO]
theorem Kc (n:Nat) (r:Af) (h:r.lA.length≤20):BP n r=some ((((r.lA.length+1) / 2:Nat):Int)):=by
  unfold BP
  rw [DF n r h]
  simp only [Wz,Option.some.injEq]
  rw [show((r.lA.length:Int)+1)=((r.lA.length+1:Nat):Int) by omega,show Int.tdiv ((r.lA.length+1:Nat):Int) 2=(((r.lA.length+1) / 2:Nat):Int) from rfl,G9 (by omega) (by omega)]
theorem Rc (n:Nat) (r:Af) (hn:50≤n) (h1:r.lA.length≤20) (h2:r.lB.length≤20) (h3:r.lC.length≤20):BY n r=some (CX r):=by
  unfold BY CX
  rw [T0 n hn r.lA _ (fun x=>Ez x 300) (fun x=>Rb n x) h1,Sl n hn r.lB _ (Lo r) (fun x=>Sm n x r h1) h2,Qs n hn r.lC _ (GM r) (fun x=>Sn n x r h1) h3]
  simp only [Rb,Gc,P3,Kc n r h1,Wz,V0 _ (show r.lA.length≤1000 by omega)]
  by_cases a1:r.lB.length>4
  · have a1':decide (((r.lB.length:Nat):Int)>4)=true:=by simp; omega
    simp only [a1',a1,cond_true,Wz,true_or,if_true]
  have a1':decide (((r.lB.length:Nat):Int)>4)=false:=by simp; omega
  by_cases a2:r.lC.length>2
  · have a2':decide (((r.lC.length:Nat):Int)>2)=true:=by simp; omega
    simp only [a1',a2',a2,cond_true,cond_false,Wz,or_true,if_true]
  have a2':decide (((r.lC.length:Nat):Int)>2)=false:=by simp; omega
  simp only [a1',a2',cond_false,Wz,a1,a2,or_self,if_false]
  unfold Qq
  by_cases b1 : ¬ (r.lA.length % 2=1)
  · have:r.lA.length % 2=0:=by omega
    simp [this]
  replace b1:=Decidable.not_not.1 b1
  have b1':(((r.lA.length % 2:Nat):Int) == 0)=false:=by rw [b1]; rfl
  by_cases b2 : ¬ (r.lA.length≤7)
  · have b2':decide ((((r.lA.length+1) / 2:Nat):Int)>4)=true:=by simp; omega
    simp only [b1',b2',b2,and_false,decide_false,WO,cond_false,cond_true,Wz]
    rfl
  replace b2:=Decidable.not_not.1 b2
  have b2':decide ((((r.lA.length+1) / 2:Nat):Int)>4)=false:=by simp; omega
  simp only [b1',b2',cond_false,b1,b2,and_self,decide_true,WN]
  cases r.lA.all (fun x=>Ez x 300)
  · simp
  cases Ez r.turn 300
  · simp
  cases r.lB.all (Lo r)
  · simp
  cases r.lC.all (GM r)
  · simp
  simp only [WM,cond_false,WN,Bool.and_true,Wz]
  by_cases b3 : ¬ (1≤r.lI∧r.lI≤30)
  · simp [b3]
  replace b3:=Decidable.not_not.1 b3
  by_cases b4 : ¬ (0≤r.gap∧r.gap≤2000)
  · simp [b3,b4]
  replace b4:=Decidable.not_not.1 b4
  simp only [b3,b4,and_self,decide_true,WM,cond_false,Wz,WN]
  by_cases b5 : ¬ (0≤r.fr∧r.fr≤2000)
  · have : ¬ (0≤r.fr∧r.fr≤r.to_∧r.to_≤2000):=fun h=>b5 ⟨h.1,by omega⟩
    simp [b5,this]
  replace b5:=Decidable.not_not.1 b5
  by_cases b6 : ¬ (0≤r.to_∧r.to_≤2000)
  · have : ¬ (0≤r.fr∧r.fr≤r.to_∧r.to_≤2000):=fun h=>b6 ⟨by omega,h.2.2⟩
    simp [b5,b6]; omega
  replace b6:=Decidable.not_not.1 b6
  simp only [b5,b6,and_self,decide_true,WM,cond_false,Wz]
  by_cases b7:r.fr>r.to_
  · have : ¬ (0≤r.fr∧r.fr≤r.to_∧r.to_≤2000):=fun h=>by omega
    have b7':decide (r.fr>r.to_)=true:=by simp; omega
    simp only [b7',cond_true]
    simp; omega
  · have b7':decide (r.fr>r.to_)=false:=by simp; omega
    simp only [b7',cond_false]
    simp; omega
structure Ct (r:Af):Prop where
  nb:r.lB.length≤4
  ns:r.lC.length≤2
  odd:r.lA.length % 2=1
  nl:r.lA.length≤7
  turn:0≤r.turn.lo∧r.turn.lo≤r.turn.hi∧r.turn.hi≤300
  lI:1≤r.lI∧r.lI≤30
  gap:0≤r.gap∧r.gap≤2000
  lG:0≤r.fr∧r.fr≤r.to_∧r.to_≤2000
  lA:∀ x∈r.lA,0≤x.lo∧x.lo≤x.hi∧x.hi≤300
  lB:∀ b∈r.lB,0≤b.stop∧b.stop≤(r.lA.length:Int)∧0≤b.tm.lo∧b.tm.lo≤b.tm.hi∧b.tm.hi≤2000
  lC:∀ s∈r.lC,0≤s.stop∧s.stop≤(r.lA.length:Int)∧0≤s.tm∧s.tm≤2000
theorem Ha {r:Af} (h:CX r=0):Ct r:=by
  unfold CX at h
  split at h
  · cases h
  rename_i h1
  split at h
  · rename_i h2
    simp only [Qq,Ez,WP,decide_eq_true_eq,WQ] at h2
    obtain⟨⟨⟨⟨⟨⟨⟨q1,q2⟩,q3⟩,q4⟩,q5⟩,q6⟩,q7⟩,q8⟩:=h2
    refine⟨by omega,by omega,q1.1,q1.2,q2,q3,q4,q5,q6,fun b hb=>?_,fun s hs=>?_⟩
    · have:=q7 b hb
      simp only [Lo,Ez,WP,decide_eq_true_eq] at this
      exact⟨this.1.1,this.1.2,this.2⟩
    · have:=q8 s hs
      simp only [GM,WP,decide_eq_true_eq] at this
      exact⟨this.1.1,this.1.2,this.2⟩
  · cases h
open Go Go.RowKit
def IV (r:Af) (a:An) (i:Nat):Bool:=decide (0≤a.lD[i]!∧a.lD[i]!≤2) && (decide (a.lE[i]! = -1) || decide ((r.lB[i]!).stop≤a.lE[i]!∧a.lE[i]!≤(((r.lA.length+1) / 2:Nat):Int)-2))
def EB (r:Af) (a:An):Bool:=decide (a.lD.length=r.lB.length∧a.lE.length=r.lB.length∧a.lC.length=r.lC.length) && (List.range r.lB.length).all (IV r a)
theorem Pn (n:Nat) (r:Af) (h:r.lA.length≤20):Hh n r=some ((((r.lA.length+1) / 2:Nat):Int)):=by
  unfold Hh
  rw [G9 (x:=(r.lA.length:Int)+1) (by omega) (by omega),show((r.lA.length:Int)+1)=((r.lA.length+1:Nat):Int) by omega,show Int.tdiv ((r.lA.length+1:Nat):Int) 2=(((r.lA.length+1) / 2:Nat):Int) from rfl,G9 (by omega) (by omega)]
theorem Rd (n:Nat) (r:Af) (b:CW) (t:Int) (h:r.lA.length≤20):C0 n r b t=some (decide (t=-1) || decide (b.stop≤t∧t≤(((r.lA.length+1) / 2:Nat):Int)-2)):=by
  unfold C0
  rw [Kc n r h]
  simp only [Wz,Gc]
  rw [G9 (by omega) (by omega)]
  by_cases ht:t=-1
  · simp [ht]
  · rw [beq_eq_false_iff_ne.2 ht]
    simp [ht]
theorem Kw (r:Af) (a:An) (hl:r.lA.length≤20) (hb:r.lB.length≤20) (h1:a.lD.length=r.lB.length) (h2:a.lE.length=r.lB.length):∀ (n i:Nat),r.lB.length<n+i→i≤r.lB.length→CE n r a (i:Int)=some (if ((List.range r.lB.length).drop i).all (IV r a) then Ex.go () else Ex.ret false)
  | 0,i,h,hi=>by omega
  | n+1,i,h,hi=>by
    rw [CE,BC]
    by_cases hx:i<r.lB.length
    · have q1:i<a.lD.length:=by omega
      have q2:i<a.lE.length:=by omega
      have q6:i<(List.range r.lB.length).length:=by simpa using hx
      simp only [hx,decide_true,cond_true,AH _ _ hx,AH _ _ q1,AH _ _ q2,Wz,Gb,Pn n r hl]
      rw [AR q6,WL,WA]
      have IH:=Kw r a hl hb h1 h2 n (i+1) (by omega) (by omega)
      rw [G9 (x:=(((r.lA.length+1) / 2:Nat):Int)-2) (by omega) (by omega),Dc i (by omega),IH]
      unfold IV
      rw [BO _ _ hx,BO _ _ q1,BO _ _ q2]
      by_cases b1:0≤a.lD[i]∧a.lD[i]≤2
      · simp only [b1,and_self,decide_true,WM,cond_false,WN]
        by_cases b2:a.lE[i]=-1
        · simp [b2]
        · have:(a.lE[i] != -1)=true:=by simpa using b2
          simp only [this,cond_true,b2,decide_false,Bool.false_or]
          by_cases b3:(r.lB[i]).stop≤a.lE[i]∧a.lE[i]≤(((r.lA.length+1) / 2:Nat):Int)-2
          · simp only [b3,and_self,decide_true,WM,cond_false,WN]
          · simp only [b3,decide_false,Bool.not_false,cond_true,WO]
            rfl
      · simp only [b1,decide_false,Bool.not_false,cond_true,WO]
        rfl
    · have:i=r.lB.length:=by omega
      have hd:(List.range r.lB.length).drop r.lB.length=[]:=WC (by simp)
      simp [this,hd]
theorem NL (r:Af) (a:An) (hl:r.lA.length≤20) (hb:r.lB.length≤20) (h1:a.lD.length=r.lB.length) (h2:a.lE.length=r.lB.length):∀ (n i:Nat),r.lB.length<n+i→i≤r.lB.length→BF n r a (i:Int)=some (if ((List.range r.lB.length).drop i).all (IV r a) then Ex.go () else Ex.ret 2)
  | 0,i,h,hi=>by omega
  | n+1,i,h,hi=>by
    rw [BF,BC]
    by_cases hx:i<r.lB.length
    · have q1:i<a.lD.length:=by omega
      have q2:i<a.lE.length:=by omega
      have q6:i<(List.range r.lB.length).length:=by simpa using hx
      simp only [hx,decide_true,cond_true,AH _ _ hx,AH _ _ q1,AH _ _ q2,Wz,Gc,Rd n r _ _ hl]
      rw [AR q6,WL,WA]
      have IH:=NL r a hl hb h1 h2 n (i+1) (by omega) (by omega)
      rw [Dc i (by omega),IH]
      unfold IV
      rw [BO _ _ hx,BO _ _ q1,BO _ _ q2]
      cases decide (0≤a.lD[i]∧a.lD[i]≤2) with
      | false=>rfl
      | true =>
        simp only [WM,cond_false,WN]
        cases (decide (a.lE[i]=-1) || decide ((r.lB[i]).stop≤a.lE[i]∧a.lE[i]≤(((r.lA.length+1) / 2:Nat):Int)-2)) with
        | false=>rfl
        | true=>rfl
    · have:i=r.lB.length:=by omega
      have hd:(List.range r.lB.length).drop r.lB.length=[]:=WC (by simp)
      simp [this,hd]
theorem NM (n:Nat) (r:Af) (a:An) (hn:50≤n) (hl:r.lA.length≤20) (hb:r.lB.length≤20):Gz n r a=some (EB r a):=by
  unfold Gz EB
  by_cases h1:a.lD.length=r.lB.length
  · by_cases h2:a.lE.length=r.lB.length
    · by_cases h3:a.lC.length=r.lC.length
      · have e1:=Kw r a hl hb h1 h2 n 0 (by omega) (by omega)
        simp only [W1,W3] at e1
        simp only [h1,h2,h3,bne_self_eq_false,cond_false,Wz,e1,and_self,decide_true,WN]
        cases (List.range r.lB.length).all (IV r a) <;> rfl
      · have:(((a.lC.length:Nat):Int) != ((r.lC.length:Nat):Int))=true:=by simp; omega
        simp only [h1,h2,h3,this,bne_self_eq_false,cond_false,cond_true,Wz,and_false,decide_false,WO]
    · have:(((a.lE.length:Nat):Int) != ((r.lB.length:Nat):Int))=true:=by simp; omega
      simp only [h1,h2,this,bne_self_eq_false,cond_false,cond_true,Wz,false_and,and_false,decide_false,WO]
  · have:(((a.lD.length:Nat):Int) != ((r.lB.length:Nat):Int))=true:=by simp; omega
    simp only [h1,this,cond_true,Wz,false_and,decide_false,WO]
theorem Qt (n:Nat) (r:Af) (a:An) (hn:50≤n) (hl:r.lA.length≤20) (hb:r.lB.length≤20) (hs:r.lC.length≤20):Ck n r a=some (if CX r≠0 then CX r else if EB r a then 0 else 2):=by
  unfold Ck EB
  rw [Rc n r hn hl hb hs]
  by_cases h0 : ¬ (CX r=0)
  · have:(CX r != 0)=true:=by simpa using h0
    simp [this,h0]
  replace h0:=Decidable.not_not.1 h0
  simp only [h0,bne_self_eq_false,cond_false,Wz,ne_eq,not_true_eq_false,if_false]
  by_cases h1:a.lD.length=r.lB.length
  · by_cases h2:a.lE.length=r.lB.length
    · by_cases h3:a.lC.length=r.lC.length
      · have e1:=NL r a hl hb h1 h2 n 0 (by omega) (by omega)
        simp only [W1,W3] at e1
        simp only [h1,h2,h3,bne_self_eq_false,cond_false,Wz,e1,and_self,decide_true,WN]
        cases (List.range r.lB.length).all (IV r a) <;> rfl
      · have:(((a.lC.length:Nat):Int) != ((r.lC.length:Nat):Int))=true:=by simp; omega
        simp only [h1,h2,h3,this,bne_self_eq_false,cond_false,cond_true,Wz,and_false,decide_false,WO]
        rfl
    · have:(((a.lE.length:Nat):Int) != ((r.lB.length:Nat):Int))=true:=by simp; omega
      simp only [h1,h2,this,bne_self_eq_false,cond_false,cond_true,Wz,false_and,and_false,decide_false,WO]
      rfl
  · have:(((a.lD.length:Nat):Int) != ((r.lB.length:Nat):Int))=true:=by simp; omega
    simp only [h1,this,cond_true,Wz,false_and,decide_false,WO]
    rfl
def Ch (m to_:Int) (l:List Rg):Int:=l.foldl (fun e p=>if p.lo>m then min e p.hi else e) to_
def DC (fr to_:Int) (l:List Rg):List Int:=fr::(l.filter fun p=>decide (fr≤p.lo) && decide (p.lo≤to_)).map Rg.lo
def WR (fr to_:Int) (l:List Rg):Int:=(DC fr to_ l).foldl (fun b m=>max b (Ch m to_ l-m)) 0
theorem Hy (m:Int):∀ (l:List Rg)(to_:Int),(∀ p∈l,p.lo≤p.hi)→m≤to_→m≤Ch m to_ l∧Ch m to_ l≤to_
  | [],to_,_,h=>⟨h,W7 _⟩
  | p::r,to_,hp,h=>by
    have h1:=hp p (by simp)
    show m≤Ch m (if p.lo>m then min to_ p.hi else to_) r∧Ch m (if p.lo>m then min to_ p.hi else to_) r≤to_
    split
    · have:=Hy m r (min to_ p.hi) (fun q hq=>hp q (W9 _ hq)) (by omega)
      omega
    · exact Hy m r to_ (fun q hq=>hp q (W9 _ hq)) h
theorem KH (m:Int):∀ (l:List (Int×Rg))(to_:Int),A3 m to_ l=Ch m to_ (l.map Prod.snd)
  | [],_=>rfl
  | p::r,to_=>KH m r _
theorem Jp {α β:Type} {f g:β→α→β}:∀ (l:List α)(b:β),(∀ b x,x∈l→f b x=g b x)→l.foldl f b=l.foldl g b
  | [],_,_=>rfl
  | x::r,b,h=>by
    rw [WS,WS,h b x (by simp)]
    exact Jp r _ fun b y hy=>h b y (W9 _ hy)
theorem Gt {fr to_ m:Int} {l:List Rg} (h:fr≤to_) (hm:m∈DC fr to_ l):fr≤m∧m≤to_:=by
  rcases List.mem_cons.1 hm with rfl | hm
  · exact⟨W7 _,h⟩
  · obtain⟨p,hp,rfl⟩:=List.mem_map.1 hm
    have:=(List.mem_filter.1 hp).2
    simpa using this
theorem P4 (n:Nat) (r:Af) (l:List (Int×Rg)) (hn:60≤n) (hl:l.length≤20) (hp:∀ p∈l.map Prod.snd,p.lo≤p.hi) (h0:0≤r.fr) (h1:r.fr≤r.to_) (h2:r.to_≤2000):BS n r (DO.mk l)=some (WR r.fr r.to_ (l.map Prod.snd)):=by
  unfold BS WR
  rw [if_pos ⟨by simp only; omega,by simp only; omega⟩]
  have hM:B2 r l=DC r.fr r.to_ (l.map Prod.snd):=by
    unfold B2 DC
    rw [List.filter_map,List.map_map]
    rfl
  simp only []
  rw [hM]
  congr 1
  refine Jp _ _ fun b m hm=>?_
  have q:=Gt h1 hm
  have:=Hy m (l.map Prod.snd) r.to_ hp q.2
  rw [KH,G9 (by omega) (by omega)]
theorem MF (w:AM) (sp:List (List (Int×Rg))) (hs:sp.length≤50) (hl:∀ l∈sp,l.length≤20∧∀ p∈l.map Prod.snd,p.lo≤p.hi) (h0:0≤w.lH.fr) (h1:w.lH.fr≤w.lH.to_) (h2:w.lH.to_≤2000):∀ (n i:Nat)(acc:List Int),sp.length+60<n+i→i≤sp.length→acc.length=i →
    Bu n w (sp.map DO.mk) acc (i:Int)=some (acc++(sp.drop i).map fun l=>WR w.lH.fr w.lH.to_ (l.map Prod.snd))
  | 0,i,acc,h,hi,_=>by omega
  | n+1,i,acc,h,hi,ha=>by
    rw [Bu,BC,WG]
    by_cases hx:i<sp.length
    · simp only [hx,decide_true,cond_true]
      rw [AH _ i (by simpa using hx)]
      simp only [Wz,WF]
      have:=hl _ (W5 hx)
      rw [P4 n w.lH _ (by omega) this.1 this.2 h0 h1 h2]
      simp only [Wz]
      rw [DE _ _ (by simp; omega)]
      simp only [Wz]
      rw [Dc i (by omega),MF w sp hs hl h0 h1 h2 n (i+1) _ (by omega) (by omega) (by simp; omega),AR hx,W0]
      rfl
    · have:i=sp.length:=by omega
      simp [this]
open Go Go.RowKit
structure DX (r:Af) (a:An):Prop where
  lD:a.lD.length=r.lB.length
  lE:a.lE.length=r.lB.length
  lC:a.lC.length=r.lC.length
  hold:∀ i,i<r.lB.length→0≤a.lD[i]!∧a.lD[i]!≤2
  turn:∀ i,i<r.lB.length→a.lE[i]! = -1∨(r.lB[i]!).stop≤a.lE[i]!∧a.lE[i]!≤(((r.lA.length+1) / 2:Nat):Int)-2
theorem GU {r:Af} {a:An} (h:EB r a=true):DX r a:=by
  simp only [EB,WP,decide_eq_true_eq,WQ,WJ] at h
  obtain⟨⟨h1,h2,h3⟩,h4⟩:=h
  refine⟨h1,h2,h3,fun i hi=>?_,fun i hi=>?_⟩ <;>
  · have:=h4 i hi
    simp only [IV,WP,Bool.or_eq_true,decide_eq_true_eq] at this
    first | exact this.1 | exact this.2
structure DQ (f:Rg→Int):Prop where
  le:∀ x:Rg,x.lo≤x.hi→x.lo≤f x∧f x≤x.hi
theorem DQ.low:DQ Rg.lo:=⟨fun _ h=>⟨W7 _,h⟩⟩
theorem DQ.high:DQ Rg.hi:=⟨fun _ h=>⟨h,W7 _⟩⟩
def DY (r:Af) (a:An) (f:Rg→Int) (i:Nat):Bj×A8:=(⟨(r.lB[i]!).stop,f (r.lB[i]!).tm+a.lD[i]! * r.lI,a.lE[i]!⟩,⟨r.lA.map f,f r.turn⟩)
def Hu (r:Af) (f:Rg→Int) (j:Nat):Bj×A8:=(⟨(r.lC[j]!).stop,(r.lC[j]!).tm,-1⟩,⟨r.lA.map f,0⟩)
theorem Re {α β:Type} [Inhabited α] [Inhabited β] (g:α→β) (l:List α) (i:Nat) (h:i<l.length):(l.map g)[i]! = g l[i]!:=by
  rw [BO _ _ (by simpa using h),BO _ _ h,WF]
theorem Rf {β:Type} [Inhabited β] (x:β) (n i:Nat) (h:i<n):(List.replicate n x)[i]! = x:=by
  rw [BO _ _ (by simpa using h),List.getElem_replicate]
theorem HT {α β:Type} {f g:α→Option β}:∀ {l:List α},(∀ x∈l,f x=g x)→l.filterMap f=l.filterMap g
  | [],_=>rfl
  | x::r,h=>by
    rw [WB,WB,h x (by simp),HT fun y hy=>h y (W9 _ hy)]
theorem Gd (r:Af) (a:An) (f:Rg→Int):Dx r a (CC r f)=(List.range r.lB.length).map (DY r a f)++(List.range r.lC.length).filterMap fun j=>if a.lC[j]! then some (Hu r f j) else none:=by
  unfold Dx
  congr 1
  · refine WI fun i hi=>?_
    rw [WJ] at hi
    unfold CI DY CC
    simp only []
    rw [Re _ _ _ hi,Re _ _ _ hi,Rf _ _ _ (by omega)]
  · refine HT fun j hj=>?_
    rw [WJ] at hj
    unfold Iv Hu CC
    simp only []
    rw [Rf _ _ _ (by omega)]
theorem NN {r:Af} {a:An} {f:Rg→Int} (hf:DQ f) (V:Ct r) (A:DX r a):P2 r a (CC r f):=by
  refine⟨by have:=V.nb; omega,by have:=V.ns; omega,A.lD,A.lE,A.lC,by simp [CC],by simp [CC],by simp [CC],fun x hx=>?_,V.lI,fun x hx=>?_⟩
  · obtain⟨i,hi,rfl⟩:=List.mem_iff_getElem.1 hx
    have:=A.hold i (by rw [← A.lD]; exact hi)
    rwa [BO _ _ hi] at this
  · simp only [CC] at hx
    obtain⟨b,hb,rfl⟩:=List.mem_map.1 hx
    have:=V.lB b hb
    have:=hf.le b.tm (by omega)
    omega
theorem NO {r:Af} {f:Rg→Int} (hf:DQ f) (V:Ct r):(∀ d∈r.lA.map f,0≤d∧d≤300)∧0≤f r.turn∧f r.turn≤300:=by
  refine⟨fun d hd=>?_,?_⟩
  · obtain⟨x,hx,rfl⟩:=List.mem_map.1 hd
    have:=V.lA x hx
    have:=hf.le x (by omega)
    omega
  · have:=V.turn
    have:=hf.le r.turn (by omega)
    omega
theorem Lp {r:Af} {a:An} {f:Rg→Int} (hf:DQ f) (V:Ct r) (A:DX r a) (i:Nat) (hi:i<r.lB.length):Ga r (DY r a f i):=by
  have hb:=V.lB _ (W5 hi)
  have h1:=A.hold i hi
  have h2:=A.turn i hi
  have h3:=Mi h1.1 h1.2 V.lI.1 V.lI.2
  obtain⟨s1,s2,s3⟩:=NO hf V
  have:=V.nl
  rw [BO _ _ hi] at h2
  have h4:=hf.le (r.lB[i]).tm (by omega)
  refine⟨⟨s2,s3,by simp [DY]; omega,s1⟩,by simp [DY],?_,?_,?_,?_,?_⟩ <;> simp only [DY,BO _ _ hi] <;> omega
theorem NP {r:Af} {f:Rg→Int} (hf:DQ f) (V:Ct r) (j:Nat) (hj:j<r.lC.length):Ga r (Hu r f j):=by
  have hb:=V.lC _ (W5 hj)
  obtain⟨s1,_,_⟩:=NO hf V
  have:=V.nl
  refine⟨⟨W7 _,by simp [Hu],by simp [Hu]; omega,s1⟩,by simp [Hu],?_,?_,?_,?_,?_⟩ <;> simp only [Hu,BO _ _ hj] <;> omega
theorem Lq {r:Af} {a:An} {f:Rg→Int} (hf:DQ f) (V:Ct r) (A:DX r a):∀ p∈Dx r a (CC r f),Ga r p:=by
  rw [Gd]
  intro p hp
  rcases List.mem_append.1 hp with hp | hp
  · obtain⟨i,hi,rfl⟩:=List.mem_map.1 hp
    exact Lp hf V A i (by simpa using hi)
  · obtain⟨j,hj,h⟩:=List.mem_filterMap.1 hp
    split at h
    · cases h; exact NP hf V j (by simpa using hj)
    · cases h
def CD (r:Af) (a:An):List ((Bj×A8)×(Bj×A8)):=(List.range r.lB.length).map (fun i=>(DY r a Rg.lo i,DY r a Rg.hi i))++(List.range r.lC.length).filterMap fun j=>if a.lC[j]! then some (Hu r Rg.lo j,Hu r Rg.hi j) else none
theorem HG {α β γ:Type} (c:α→Bool) (f:α→β) (g:α→γ):∀ l:List α,(l.filterMap fun j=>if c j then some (f j) else none).zip (l.filterMap fun j=>if c j then some (g j) else none)=l.filterMap fun j=>if c j then some (f j,g j) else none
  | []=>rfl
  | x::r=>by
    simp only [WB]
    cases c x with
    | true=>simp only [if_true,List.zip_cons_cons,HG c f g r]
    | false=>simp only [Bool.false_eq_true,if_false,HG c f g r]
theorem HH {α β γ:Type} (c:α→Bool) (f:α→β) (g:α→γ):∀ l:List α,(l.filterMap fun j=>if c j then some (f j) else none).length=(l.filterMap fun j=>if c j then some (g j) else none).length
  | []=>rfl
  | x::r=>by
    simp only [WB]
    cases c x with
    | true=>simp only [if_true,WT,HH c f g r]
    | false=>simp only [Bool.false_eq_true,if_false,HH c f g r]
theorem Kd (r:Af) (a:An):(Dx r a (CC r Rg.lo)).zip (Dx r a (CC r Rg.hi))=CD r a:=by
  rw [Gd,Gd,List.zip_append (by simp),CD,HG,List.zip_map']
theorem T1 (r:Af) (a:An):(Dx r a (CC r Rg.lo)).length=(Dx r a (CC r Rg.hi)).length:=by
  rw [Gd,Gd,WU,WU,HH _ (Hu r Rg.lo) (Hu r Rg.hi)]
  simp
theorem GO (r:Af) (a:An) (f:Rg→Int):(Dx r a (CC r f)).length≤r.lB.length+r.lC.length:=by
  rw [Gd,WU,WG,WV]
  have:=WW (fun j=>if a.lC[j]! then some (Hu r f j) else none) (List.range r.lC.length)
  rw [WV] at this
  omega
theorem Hb {st lF turn:Int} {lA:List Int} (ht:2*lF+1<st):∀ (n m:Nat)(tm s:Int),st-s<n→st-s<m→Ci st lF turn lA n tm s=Ci st lF turn lA m tm s
  | 0,m,tm,s,h1,h2=>by
    cases m with
    | zero=>rfl
    | succ m=>rw [Ci,Ci,if_neg (by omega)]
  | n+1,0,tm,s,h1,h2=>by rw [Ci,Ci,if_neg (by omega)]
  | n+1,m+1,tm,s,h1,h2=>by
    rw [Ci,Ci]
    by_cases hc:0≤s∧s<st
    · simp only [hc,and_self,if_true]
      congr 1
      by_cases hs:s=lF
      · simp only [hs,if_true]
        exact Hb ht n m _ _ (by omega) (by omega)
      · simp only [hs,if_false]
        cases lA[s.toNat]? with
        | none=>rfl
        | some d=>exact Hb ht n m _ _ (by omega) (by omega)
    · simp only [hc,if_false]
theorem Rh {r:Af} {p:(Bj×A8)×(Bj×A8)} (hl:r.lA.length≤20) (h1:Ga r p.1) (h2:Ga r p.2) {n:Nat} (hn:30≤n) (k:Int):CM ((r.lA.length:Int)+1) n p k=CM ((r.lA.length:Int)+1) 40 p k:=by
  have a1:=h1.s0
  have a2:=h2.s0
  unfold CM
  rw [Hb h1.t n 40 _ _ (by omega) (by omega),Hb h2.t n 40 _ _ (by omega) (by omega)]
theorem Ml {r:Af} {a:An} (V:Ct r) {p:(Bj×A8)×(Bj×A8)} (hp:p∈CD r a) (n:Nat) (k:Int) (A:DX r a) :
    (Ca (Ci ((r.lA.length:Int)+1) p.1.1.lF p.1.2.turn p.1.2.lA n p.1.1.tm p.1.1.stop) k=none∧Ca (Ci ((r.lA.length:Int)+1) p.2.1.lF p.2.2.turn p.2.2.lA n p.2.1.tm p.2.1.stop) k=none) ∨
    ∃ x y,Ca (Ci ((r.lA.length:Int)+1) p.1.1.lF p.1.2.turn p.1.2.lA n p.1.1.tm p.1.1.stop) k=some x∧Ca (Ci ((r.lA.length:Int)+1) p.2.1.lF p.2.2.turn p.2.2.lA n p.2.1.tm p.2.1.stop) k=some y∧x≤y:=by
  have hle:∀ (k:Nat)(d d':Int),(r.lA.map Rg.lo)[k]? = some d→(r.lA.map Rg.hi)[k]? = some d'→d≤d':=fun k d d' h1 h2=>by
    rw [WE] at h1 h2
    obtain⟨x,hx,rfl⟩:=Option.map_eq_some_iff.1 h1
    rw [hx] at h2
    cases h2
    have:=V.lA x (WH hx)
    omega
  unfold CD at hp
  rcases List.mem_append.1 hp with hp | hp
  · obtain⟨i,hi,rfl⟩:=List.mem_map.1 hp
    have hi:i<r.lB.length:=by simpa using hi
    have ok:=Lp DQ.low V A i hi
    have hb:=V.lB _ (W5 hi)
    have:=V.turn
    exact HR (turn:=r.turn.lo) (turn':=r.turn.hi) ok.t (by simp) hle (by omega) n _ _ _ k (by simp only [DY,BO _ _ hi]; omega)
  · obtain⟨j,hj,h⟩:=List.mem_filterMap.1 hp
    split at h
    · cases h
      have ok:=NP DQ.low V j (by simpa using hj)
      exact HR ok.t (by simp) hle (W7 _) n _ _ _ k (W7 _)
    · cases h
def AI (r:Af) (a:An) (k:Nat):List Rg:=(CD r a).filterMap fun p=>CM ((r.lA.length:Int)+1) 40 p k
theorem CA (st:Int) (n:Nat) (k:Int):∀ (i:Nat)(l:List ((Bj×A8)×(Bj×A8))),(AG st n k i l).map Prod.snd=l.filterMap fun p=>CM st n p k
  | _,[]=>rfl
  | i,p::r=>by
    rw [AG,WB]
    cases CM st n p k with
    | none=>exact CA st n k (i+1) r
    | some x=>simp only [W8,CA st n k (i+1) r]
theorem Mm {r:Af} {a:An} (V:Ct r) (A:DX r a) (k:Nat):∀ x∈AI r a k,x.lo≤x.hi:=fun x hx=>by
  obtain⟨p,hp,h⟩:=List.mem_filterMap.1 hx
  unfold CM at h
  rcases Ml V hp 40 k A with⟨h1,h2⟩ | ⟨u,v,h1,h2,h3⟩
  · rw [h1,h2] at h; cases h
  · rw [h1,h2] at h; cases h; exact h3
theorem Lr {α:Type}:∀ l:List α,List.mapM id (l.map some)=some l
  | []=>rfl
  | x::r=>by rw [W8,List.mapM_cons,Lr r]; rfl
theorem MG (st:Nat) (x18:List (Option (List (Int×Rg)))) (h18:x18.length=st) (hb:st≤50):∀ (n i:Nat)(x:List (Option (List (Int×Rg)))),st<n+i→i≤st→x.length=st→(∀ k,k<i→x[k]? = some (some []))→Bs n x18 x (i:Int)=some (List.replicate st (some []))
  | 0,i,x,h,hi,_,_=>by omega
  | n+1,i,x,h,hi,hx,hk=>by
    rw [Bs,BC,h18]
    by_cases hi':i<st
    · simp only [hi',decide_true,cond_true]
      rw [AH _ i (by omega)]
      simp only [Wz]
      rw [NE _ i _ (by omega)]
      simp only [Wz]
      rw [Dc i (by omega),MG st x18 h18 hb n (i+1) _ (by omega) (by omega) (by simpa using hx) fun k hk'=>?_]
      rw [List.getElem?_set]
      by_cases hik:i=k
      · subst hik; simp; omega
      · simp only [hik,if_false]; exact hk k (by omega)
    · simp only [hi',decide_false,cond_false,Option.some.injEq]
      apply List.ext_getElem?
      intro k
      by_cases hks:k<st
      · rw [hk k (by omega),WX]; simp [hks]
      · rw [W6 (by omega),W6 (by simp; omega)]
theorem NQ (n:Nat) (r:Af) (a:An) (V:Ct r) (A:DX r a) (hn:80≤n) (hn2:n≤900):BT n ⟨r,a⟩=some ((List.range (r.lA.length+1)).map fun(k:Nat)=>DO.mk (AG ((r.lA.length:Int)+1) 40 k 0 (CD r a))):=by
  have:=V.nl
  have:=V.nb
  have:=V.ns
  unfold BT
  simp only []
  rw [DF n r (by omega),Wz]
  have eM:mk ((r.lA.length:Int)+1) (none:Option (List (Int×Rg)))=some (List.replicate (r.lA.length+1) none):=by
    rw [show((r.lA.length:Int)+1)=((r.lA.length+1:Nat):Int) by omega]; exact Wm _ _ (by omega)
  rw [eM,Wz]
  have e0:=MG (r.lA.length+1) (List.replicate (r.lA.length+1) (none:Option (List (Int×Rg)))) (by simp) (by omega) n 0 (List.replicate (r.lA.length+1) none) (by omega) (by omega) (by simp) (fun k hk=>by omega)
  simp only [W1] at e0
  rw [e0,N3 n r Rg.lo (fun y0=>Al n y0) (fun x=>rfl) (by omega) (by omega) (by omega) (by omega),N3 n r Rg.hi (fun y0=>Aw n y0) (fun x=>rfl) (by omega) (by omega) (by omega) (by omega),Wz,Wz]
  rw [NJ n r a _ (NN DQ.low V A) (by omega),Wz,Wz,NJ n r a _ (NN DQ.high V A) (by omega),Wz]
  have e2:=MB ⟨r,a⟩ (Dx r a (CC r Rg.lo)) (Dx r a (CC r Rg.hi)) (by simp only; omega) (T1 r a) (Lq DQ.low V A) (Lq DQ.high V A) 60 (by omega) (by omega) (by have:=GO r a Rg.lo; omega)
    (fun m hm1 hm2 p hp=>by
      have hz:=hp
      rw [Kd] at hz
      have hp1:p.1∈Dx r a (CC r Rg.lo):=(List.of_mem_zip (show(p.1,p.2)∈_ from hp)).1
      have hp2:p.2∈Dx r a (CC r Rg.hi):=(List.of_mem_zip (show(p.1,p.2)∈_ from hp)).2
      refine⟨fun k=>?_,fun k=>Rh (by omega) (Lq DQ.low V A _ hp1) (Lq DQ.high V A _ hp2) hm1 k⟩
      rcases Ml V hz m k A with⟨h1,h2⟩ | ⟨x,y,h1,h2,_⟩
      · simp only; rw [h1,h2]
      · simp only; rw [h1,h2]; simp) n 0 (List.replicate (r.lA.length+1) []) (by have:=GO r a Rg.lo; omega) (by omega) (by omega) (by simp) (fun m hm p hp=>by
        rw [(List.mem_replicate.1 hm).2] at hp; cases hp)
  simp only [W1,List.map_replicate,W3] at e2
  rw [e2,Wz,Lr,Wz,List.map_map,Option.some.injEq]
  refine WI fun k hk=>?_
  rw [WJ] at hk
  simp only [Function.comp,Kd,WX,hk,if_true,Option.getD_some,W2]
def BK (r:Af) (a:An):List Int:=(List.range (r.lA.length+1)).map fun k=>WR r.fr r.to_ (AI r a k)
theorem TZ (n:Nat) (r:Af) (a:An) (V:Ct r) (A:DX r a) (hn:100≤n) (hn2:n≤900):Co n ⟨r,a⟩=some (BK r a):=by
  have:=V.nl
  have:=V.nb
  have:=V.ns
  have:=V.lG
  unfold Co
  rw [NQ n r a V A (by omega) hn2]
  simp only [Wz]
  have e:=MF ⟨r,a⟩ ((List.range (r.lA.length+1)).map fun(k:Nat)=>AG ((r.lA.length:Int)+1) 40 k 0 (CD r a)) (by simp; omega) (fun l hl=>by
    obtain⟨k,_,rfl⟩:=List.mem_map.1 hl
    refine⟨?_,by rw [CA]; exact Mm V A k⟩
    have h1:(AG ((r.lA.length:Int)+1) 40 k 0 (CD r a)).length=((AG ((r.lA.length:Int)+1) 40 k 0 (CD r a)).map Prod.snd).length:=by simp
    rw [h1,CA]
    refine Nat.le_trans (WW _ _) ?_
    rw [← Kd,List.length_zip]
    have:=GO r a Rg.lo
    omega) (by simp only; omega) (by simp only; omega) (by simp only; omega) n 0 [] (by simp; omega) (by omega) rfl
  simp only [W1,W2,W3,List.map_map] at e
  simp only [Function.comp_def] at e
  rw [e]
  simp only [Wz,BK,AI,CA]
theorem Ua (n:Nat) (r:Af) (a:An) (hF:CX r=0) (hA:EB r a=true) (hn:100≤n) (hn2:n≤900):Ew n r a=some (BK r a,0):=by
  have V:=Ha hF
  have:=V.nl
  have:=V.nb
  have:=V.ns
  unfold Ew
  rw [Qt n r a (by omega) (by omega) (by omega) (by omega),TZ n r a V (GU hA) hn hn2]
  simp [hF,hA]
open Go Go.RowKit
theorem Ub (n:Nat) (r:Af) (a:An) (hn:60≤n):∃ b,HW n r a=some b∧(b=true→r.lA.length≤10∧r.lB.length≤6∧r.lC.length≤4∧a.lD.length≤8∧a.lE.length≤8∧a.lC.length≤8∧CX r=0∧EB r a=true):=by
  unfold HW Lw
  by_cases h1 : ¬ (((r.lA.length:Nat):Int)≤10)
  · exact⟨false,by simp only [h1,decide_false,cond_false,Wz],by simp⟩
  replace h1:=Decidable.not_not.1 h1
  by_cases h2 : ¬ (((r.lB.length:Nat):Int)≤6)
  · exact⟨false,by simp only [h1,h2,decide_true,decide_false,cond_true,cond_false,Wz],by simp⟩
  replace h2:=Decidable.not_not.1 h2
  by_cases h3 : ¬ (((r.lC.length:Nat):Int)≤4)
  · exact⟨false,by simp only [h1,h2,h3,decide_true,decide_false,cond_true,cond_false,Wz],by simp⟩
  replace h3:=Decidable.not_not.1 h3
  simp only [h1,h2,h3,decide_true,cond_true,Wz]
  obtain⟨m,rfl⟩:∃ m,n=m+1:=⟨n-1,by omega⟩
  have e1:EU (m+1) (Ap.mk [] [] []) 0=some (Ex.go ()):=rfl
  unfold Kg
  rw [e1]
  simp only [Wz,Ex.bind]
  by_cases q1 : ¬ (((a.lD.length:Nat):Int)≤8)
  · exact⟨false,by simp only [q1,decide_false,cond_false,Wz],by simp⟩
  replace q1:=Decidable.not_not.1 q1
  by_cases q2 : ¬ (((a.lE.length:Nat):Int)≤8)
  · exact⟨false,by simp only [q1,q2,decide_true,cond_true,decide_false,cond_false,Wz],by simp⟩
  replace q2:=Decidable.not_not.1 q2
  by_cases q3 : ¬ (((a.lC.length:Nat):Int)≤8)
  · exact⟨false,by simp only [q1,q2,q3,decide_true,cond_true,decide_false,cond_false,Wz],by simp⟩
  replace q3:=Decidable.not_not.1 q3
  simp only [q1,q2,q3,decide_true,cond_true]
  have z:decide ((((([]:List Int).length):Nat):Int)≤8)=true:=by decide
  have z2:decide ((((([]:List (List Int)).length):Nat):Int)≤8)=true:=by decide
  simp only [z,z2,cond_true,Wz]
  unfold Kh
  rw [Qr (m+1) r (by omega) (by omega) (by omega) (by omega),NM (m+1) r a (by omega) (by omega) (by omega)]
  simp only [Wz]
  by_cases f0:CX r=0
  · rw [f0]
    simp only [bne_self_eq_false,cond_false]
    cases hb:EB r a with
    | true=>exact⟨_,rfl,fun _=>⟨by omega,by omega,by omega,by omega,by omega,by omega,by simp,by simp⟩⟩
    | false=>exact⟨_,rfl,fun h=>by simp at h⟩
  · have:(CX r != 0)=true:=by simpa using f0
    simp only [this,cond_true,Wz]
    exact⟨_,rfl,fun h=>absurd (by simpa using h) f0⟩
open Go Go.RowKit
def AS.put (x:AS) (k:Nat) (v:Int):AS:=match k with
  | 0=>⟨v,x.a1,x.a2,x.a3⟩
  | 1=>⟨x.a0,v,x.a2,x.a3⟩
  | 2=>⟨x.a0,x.a1,v,x.a3⟩
  | _=>⟨x.a0,x.a1,x.a2,v⟩
def Bd.put (x:Bd) (k:Nat) (v:Bool):Bd:=match k with
  | 0=>⟨v,x.a1⟩
  | _=>⟨x.a0,v⟩
theorem AS.setI_put (x:AS) (v:Int):∀ k:Nat,k<4→AS.setI x (k:Int) v=some (x.put k v)
  | 0,_=>rfl
  | 1,_=>rfl
  | 2,_=>rfl
  | 3,_=>rfl
  | k+4,h=>by omega
theorem Bd.setI_put (x:Bd) (v:Bool):∀ k:Nat,k<2→Bd.setI x (k:Int) v=some (x.put k v)
  | 0,_=>rfl
  | 1,_=>rfl
  | k+2,h=>by omega
theorem AS.put_put (x:AS) (u v:Int):∀ k:Nat,k<4→(x.put k u).put k v=x.put k v
  | 0,_=>rfl
  | 1,_=>rfl
  | 2,_=>rfl
  | 3,_=>rfl
  | k+4,h=>by omega
theorem Bd.put_put (x:Bd) (u v:Bool):∀ k:Nat,k<2→(x.put k u).put k v=x.put k v
  | 0,_=>rfl
  | 1,_=>rfl
  | k+2,h=>by omega
theorem AS.toL_put (x:AS) (v:Int):∀ k:Nat,k<4→(x.put k v).toL=x.toL.set k v
  | 0,_=>rfl
  | 1,_=>rfl
  | 2,_=>rfl
  | 3,_=>rfl
  | k+4,h=>by omega
theorem Bd.toL_put (x:Bd) (v:Bool):∀ k:Nat,k<2→(x.put k v).toL=x.toL.set k v
  | 0,_=>rfl
  | 1,_=>rfl
  | k+2,h=>by omega
theorem VD (n k:Nat) (h:k<n):VR n (k:Int)=some ():=by unfold VR; rw [if_pos (by omega)]
def DG (nb k:Nat) (v:Int) (p:Ar×Bn):Ar×Bn :=
  if k<nb then(⟨p.1.lD.put k v,p.1.lE,p.1.lC⟩,⟨p.2.lJ+min v 1,p.2.sum+v⟩)
  else if k<2*nb then(⟨p.1.lD,p.1.lE.put (k-nb) v,p.1.lC⟩,⟨p.2.lJ+min (v+1) 1,p.2.sum⟩)
  else(⟨p.1.lD,p.1.lE,p.1.lC.put (k-2*nb) (v == 1)⟩,⟨p.2.lJ+v,p.2.sum⟩)
def KI (r:Af) (b:CW) (t:Int):Bool:=decide (t=-1) || decide (b.stop≤t∧t≤(((r.lA.length+1) / 2:Nat):Int)-2)
def N4 (r:Af) (b:CW):List Int:=((List.range ((r.lA.length+1) / 2+1)).map fun(i:Nat)=>(i:Int)-1).filter (KI r b)
def Hc (r:Af) (k:Nat):List Int:=if k<r.lB.length then [0,1,2] else if k<2*r.lB.length then N4 r (r.lB[k-r.lB.length]!) else [0,1]
def Iw (r:Af):Nat→Nat→List (List Int)
  | 0,_=>[[]]
  | n+1,k=>(Hc r k).flatMap fun v=>(Iw r n (k+1)).map (v::·)
def F8 (nb:Nat):Nat→List Int→Ar×Bn→Ar×Bn
  | _,[],p=>p
  | k,v::q,p=>F8 nb (k+1) q (DG nb k v p)
theorem Jq {α β σ:Type} (f:α→List β) (g:σ→β→Option σ):∀ (l:List α)(s:σ),(l.flatMap f).foldlM g s=l.foldlM (fun s a=>(f a).foldlM g s) s
  | [],s=>rfl
  | a::l,s=>by
    rw [List.flatMap_cons,List.foldlM_append,W4]
    congr 1
    funext s'
    exact Jq f g l s'
theorem Ri (v:Int):(if 1<v then 1 else v)=min v 1:=by omega
section
variable {σ:Type} (see:σ→Ar→Bn→Option σ)
def Kx (r:Af) (n k:Nat) (d:Ar) (c:Bn) (s:σ):Option σ:=(Iw r n k).foldlM (fun s q=>see s (F8 r.lB.length k q (d,c)).1 (F8 r.lB.length k q (d,c)).2) s
theorem So (r:Af) (k:Nat) (d:Ar) (c:Bn) (s:σ):Kx see r 0 k d c s=see s d c:=by
  show(see s d c).bind some=_
  cases see s d c <;> rfl
theorem Sp (r:Af) (n k:Nat) (d:Ar) (c:Bn) (s:σ):Kx see r (n+1) k d c s=(Hc r k).foldlM (fun s v=>Kx see r n (k+1) (DG r.lB.length k v (d,c)).1 (DG r.lB.length k v (d,c)).2 s) s:=by
  unfold Kx
  rw [Iw,Jq]
  congr 1
  funext s v
  rw [List.foldlM_map]
  rfl
structure Hd (c:Bn) (k:Nat):Prop where
  n0:0≤c.lJ
  n1:c.lJ≤k
  s0:0≤c.sum
  s1:c.sum≤2*k
theorem Hd.step {nb k:Nat} {v:Int} {p:Ar×Bn} (h:Hd p.2 k) (h0:k<nb→0≤v∧v≤2) (h1 : ¬ k<nb→k<2*nb→-1≤v) (h2 : ¬ k<2*nb→0≤v∧v≤1):Hd (DG nb k v p).2 (k+1):=by
  obtain⟨a,b,c,d⟩:=h
  unfold DG
  by_cases c1:k<nb
  · have:=h0 c1
    simp only [c1,if_true]
    constructor <;> simp only <;> omega
  · by_cases c2:k<2*nb
    · have:=h1 c1 c2
      simp only [c1,c2,if_true,if_false]
      constructor <;> simp only <;> omega
    · have:=h2 c2
      simp only [c1,c2,if_false]
      constructor <;> simp only <;> omega
theorem MH (r:Af) (d:Ar) (c:Bn) (k B:Nat) (hk:k<r.lB.length) (hb:r.lB.length≤4) (hc:Hd c k) (E:Ar→Bn→σ→Option σ)
    (hE:∀ m d' c' s',B≤m→Hd c' (k+1)→control_Route_every_1 m see d' c' ((k+1:Nat):Int) ((r.lB.length:Nat):Int) r s' = E d' c' s'):∀ (j:Nat)(n:Nat)(i:Nat)(u:AS)(s:σ),i+j=3→B+j<n→(∀ v,u.put k v=d.lD.put k v) →
    (AZ n see d c (k:Int) ((r.lB.length:Nat):Int) r (i:Int) u s).bind (fun o=>some o.2)=(([0,1,2]:List Int).drop i).foldlM (fun s v=>E (DG r.lB.length k v (d,c)).1 (DG r.lB.length k v (d,c)).2 s) s
  | 0,0,i,u,s,_,h,_=>by omega
  | 0,n+1,i,u,s,hi,_,_=>by
    obtain rfl:i=3:=by omega
    rw [AZ]
    rfl
  | j+1,0,i,u,s,_,h,_=>by omega
  | j+1,n+1,i,u,s,hi,hn,hu=>by
    rw [AZ]
    have h3:decide ((i:Int)<3)=true:=decide_eq_true (by omega)
    have hd:([0,1,2]:List Int).drop i=(i:Int)::([0,1,2]:List Int).drop (i+1):=by
      have:i=0∨i=1∨i=2:=by omega
      rcases this with rfl | rfl | rfl <;> rfl
    obtain⟨a1,a2,a3,a4⟩:=id hc
    rw [h3,cond_true,VD 4 k (by omega),Wz,AS.setI_put _ _ k (by omega),Wz,hd,W4]
    rw [G9 (x:=c.lJ+_) (by omega) (by omega),G9 (x:=c.sum+_) (by omega) (by omega),Dc k (by omega),Dc i (by omega),Ri]
    rw [hE n _ _ _ (by omega) (by constructor <;> simp only <;> omega)]
    have e1:DG r.lB.length k (i:Int) (d,c)=(Ar.mk (u.put k i) d.lE d.lC,Bn.mk (c.lJ+min (i:Int) 1) (c.sum+i)):=by
      unfold DG; rw [if_pos hk,hu]
    rw [e1]
    cases E (Ar.mk (u.put k i) d.lE d.lC) (Bn.mk (c.lJ+min (i:Int) 1) (c.sum+i)) s with
    | none=>rfl
    | some s' =>
      exact MH r d c k B hk hb hc E hE j n (i+1) _ s' (by omega) (by omega) fun v=>by rw [AS.put_put _ _ _ k (by omega)]; exact hu v
theorem MI (r:Af) (d:Ar) (c:Bn) (k B:Nat) (hk : ¬ k<2*r.lB.length) (hk2:k<2*r.lB.length+r.lC.length) (hb:r.lB.length≤4) (hs:r.lC.length≤2) (hc:Hd c k) (E:Ar→Bn→σ→Option σ)
    (hE:∀ m d' c' s',B≤m→Hd c' (k+1)→control_Route_every_1 m see d' c' ((k+1:Nat):Int) ((r.lB.length:Nat):Int) r s' = E d' c' s'):∀ (j:Nat)(n:Nat)(i:Nat)(u:Bd)(s:σ),i+j=2→B+j<n→(∀ v,u.put (k-2*r.lB.length) v=d.lC.put (k-2*r.lB.length) v) →
    (Ba n see d c (k:Int) ((r.lB.length:Nat):Int) r (i:Int) u s).bind (fun o=>some o.2)=(([0,1]:List Int).drop i).foldlM (fun s v=>E (DG r.lB.length k v (d,c)).1 (DG r.lB.length k v (d,c)).2 s) s
  | 0,0,i,u,s,_,h,_=>by omega
  | 0,n+1,i,u,s,hi,_,_=>by
    obtain rfl:i=2:=by omega
    rw [Ba]
    rfl
  | j+1,0,i,u,s,_,h,_=>by omega
  | j+1,n+1,i,u,s,hi,hn,hu=>by
    rw [Ba]
    have h3:decide ((i:Int)<2)=true:=decide_eq_true (by omega)
    have hd:([0,1]:List Int).drop i=(i:Int)::([0,1]:List Int).drop (i+1):=by
      have:i=0∨i=1:=by omega
      rcases this with rfl | rfl <;> rfl
    obtain⟨a1,a2,a3,a4⟩:=id hc
    rw [G9 (x:=2*_) (by omega) (by omega),G9 (x:=(k:Int)-_) (by omega) (by omega),show(k:Int)-2*((r.lB.length:Nat):Int)=((k-2*r.lB.length:Nat):Int) by omega]
    rw [h3,cond_true,VD 2 _ (by omega),Wz,Bd.setI_put _ _ _ (by omega),Wz,hd,W4]
    rw [G9 (x:=c.lJ+_) (by omega) (by omega),Dc k (by omega),Dc i (by omega)]
    rw [hE n _ _ _ (by omega) (by constructor <;> simp only <;> omega)]
    have e1:DG r.lB.length k (i:Int) (d,c)=(Ar.mk d.lD d.lE (u.put (k-2*r.lB.length) ((i:Int) == 1)),Bn.mk (c.lJ+(i:Int)) c.sum):=by
      unfold DG; rw [if_neg (by omega),if_neg hk,hu]
    rw [e1]
    cases E (Ar.mk d.lD d.lE (u.put (k-2*r.lB.length) ((i:Int) == 1))) (Bn.mk (c.lJ+(i:Int)) c.sum) s with
    | none=>rfl
    | some s' =>
      exact MI r d c k B hk hk2 hb hs hc E hE j n (i+1) _ s' (by omega) (by omega) fun v=>by rw [Bd.put_put _ _ _ _ (by omega)]; exact hu v
theorem MJ (r:Af) (d:Ar) (c:Bn) (k B:Nat) (hk : ¬ k<r.lB.length) (hk2:k<2*r.lB.length) (hb:r.lB.length≤4) (hl:r.lA.length≤20) (hc:Hd c k) (E:Ar→Bn→σ→Option σ)
    (hE:∀ m d' c' s',B≤m→Hd c' (k+1)→control_Route_every_1 m see d' c' ((k+1:Nat):Int) ((r.lB.length:Nat):Int) r s' = E d' c' s'):∀ (j:Nat)(n:Nat)(i:Nat)(u:AS)(s:σ),i+j=(r.lA.length+1) / 2+1→B+j<n→(∀ v,u.put (k-r.lB.length) v=d.lE.put (k-r.lB.length) v) →
    (AJ n see d c (k:Int) ((r.lB.length:Nat):Int) r ((i:Int)-1) u s).bind (fun o=>some o.2)=((((List.range ((r.lA.length+1) / 2+1)).drop i).map fun(i:Nat)=>(i:Int)-1).filter (KI r (r.lB[k-r.lB.length]!))).foldlM (fun s v=>E (DG r.lB.length k v (d,c)).1 (DG r.lB.length k v (d,c)).2 s) s
  | 0,0,i,u,s,_,h,_=>by omega
  | 0,n+1,i,u,s,hi,_,_=>by
    have hd:(List.range ((r.lA.length+1) / 2+1)).drop i=[]:=WC (by simp; omega)
    rw [AJ,Kc n r hl,Wz,decide_eq_false (by omega),cond_false,hd]
    rfl
  | j+1,0,i,u,s,_,h,_=>by omega
  | j+1,n+1,i,u,s,hi,hn,hu=>by
    have q6:i<(List.range ((r.lA.length+1) / 2+1)).length:=by simp; omega
    have hkb:k-r.lB.length<r.lB.length:=by omega
    obtain⟨a1,a2,a3,a4⟩:=id hc
    rw [AJ,Kc n r hl,Wz,decide_eq_true (show(i:Int)-1<(((r.lA.length+1) / 2:Nat):Int) by omega),cond_true,AR q6,WA]
    rw [G9 (x:=(k:Int)-_) (by omega) (by omega),show(k:Int)-((r.lB.length:Nat):Int)=((k-r.lB.length:Nat):Int) by omega,AH _ _ hkb,Wz,Rd n r _ _ hl,Wz,BO _ _ hkb]
    rw [W8,List.filter_cons]
    rw [G9 (x:=(i:Int)-1+1) (by omega) (by omega),show(i:Int)-1+1=(i:Int) by omega,show(i:Int)=((i+1:Nat):Int)-1 by omega]
    have hok:KI r r.lB[k-r.lB.length] (((i+1:Nat):Int)-1-1)=(decide (((i+1:Nat):Int)-1-1=-1) || decide ((r.lB[k-r.lB.length]).stop≤((i+1:Nat):Int)-1-1∧((i+1:Nat):Int)-1-1≤(((r.lA.length+1) / 2:Nat):Int)-2)):=rfl
    have IH:=MJ r d c k B hk hk2 hb hl hc E hE j n (i+1)
    rw [BO _ _ hkb] at IH
    rw [← hok]
    cases hcase:KI r r.lB[k-r.lB.length] (((i+1:Nat):Int)-1-1) with
    | false =>
      simp only [cond_false,Bool.false_eq_true,if_false]
      exact IH u s (by omega) (by omega) hu
    | true =>
      simp only [cond_true,if_true]
      rw [VD 4 _ (by omega),Wz,AS.setI_put _ _ _ (by omega),Wz,W4,Ri]
      rw [G9 (x:=c.lJ+_) (by omega) (by omega),Dc k (by omega)]
      rw [hE n _ _ _ (by omega) (by constructor <;> simp only <;> omega)]
      have e1:DG r.lB.length k (((i+1:Nat):Int)-1-1) (d,c)=(Ar.mk d.lD (u.put (k-r.lB.length) (((i+1:Nat):Int)-1-1)) d.lC,Bn.mk (c.lJ+min (((i+1:Nat):Int)-1) 1) c.sum):=by
        unfold DG; rw [if_neg hk,if_pos hk2,hu,show((i+1:Nat):Int)-1-1+1=((i+1:Nat):Int)-1 by omega]
      rw [e1]
      cases E (Ar.mk d.lD (u.put (k-r.lB.length) (((i+1:Nat):Int)-1-1)) d.lC) (Bn.mk (c.lJ+min (((i+1:Nat):Int)-1) 1) c.sum) s with
      | none=>rfl
      | some s'=>exact IH _ s' (by omega) (by omega) fun v=>by rw [AS.put_put _ _ _ _ (by omega)]; exact hu v
theorem NR (r:Af) (hb:r.lB.length≤4) (hs:r.lC.length≤2) (hl:r.lA.length≤7):∀ (j n k:Nat)(d:Ar)(c:Bn)(s:σ),k+j=2*r.lB.length+r.lC.length→10*j<n→Hd c k →
    control_Route_every_1 n see d c (k:Int) ((r.lB.length:Nat):Int) r s=Kx see r j k d c s
  | j,0,k,d,c,s,_,h,_=>by omega
  | 0,n+1,k,d,c,s,hk,hn,hc=>by
    rw [control_Route_every_1,G9 (x:=2*_) (by omega) (by omega),G9 (by omega) (by omega),decide_eq_false (by omega),decide_eq_false (by omega),decide_eq_false (by omega),So]
    simp only [cond_false]
    cases see s d c <;> rfl
  | j+1,n+1,k,d,c,s,hk,hn,hc=>by
    have IH:∀ m d' c' s',10*j+1≤m→Hd c' (k+1)→control_Route_every_1 m see d' c' ((k+1:Nat):Int) ((r.lB.length:Nat):Int) r s' = Kx see r j (k+1) d' c' s':=fun m d' c' s' hm hc'=>NR r hb hs hl j m (k+1) d' c' s' (by omega) (by omega) hc'
    rw [control_Route_every_1,G9 (x:=2*_) (by omega) (by omega),G9 (by omega) (by omega),Sp]
    by_cases c1:k<r.lB.length
    · rw [decide_eq_true (by omega),cond_true]
      have e:=MH see r d c k (10*j+1) c1 hb hc (fun d c s=>Kx see r j (k+1) d c s) IH 3 n 0 d.lD s rfl (by omega) (fun _=>rfl)
      rw [W1,W3] at e
      rw [e]
      unfold Hc
      rw [if_pos c1]
    · rw [decide_eq_false (by omega),cond_false]
      by_cases c2:k<2*r.lB.length
      · rw [decide_eq_true (by omega),cond_true]
        have e:=MJ see r d c k (10*j+1) c1 c2 hb (by omega) hc (fun d c s=>Kx see r j (k+1) d c s) IH ((r.lA.length+1) / 2+1) n 0 d.lE s (by omega) (by omega) (fun _=>rfl)
        rw [W1,W3,show(0:Int)-1=-1 from rfl] at e
        rw [e]
        unfold Hc
        rw [if_neg c1,if_pos c2]
        rfl
      · rw [decide_eq_false (by omega),cond_false,decide_eq_true (by omega),cond_true]
        have e:=MI see r d c k (10*j+1) c2 (by omega) hb hs hc (fun d c s=>Kx see r j (k+1) d c s) IH 2 n 0 d.lC s rfl (by omega) (fun _=>rfl)
        rw [W1,W3] at e
        rw [e]
        unfold Hc
        rw [if_neg c1,if_neg c2]
def Dy (r:Af):List (List Int):=Iw r (2*r.lB.length+r.lC.length) 0
def TS:Ar×Bn:=(Ar.mk (AS.mk 0 0 0 0) (AS.mk 0 0 0 0) (Bd.mk false false),Bn.mk 0 0)
def He (r:Af) (q:List Int):Ar×Bn:=F8 r.lB.length 0 q TS
theorem Uc (n:Nat) (r:Af) (s:σ) (hb:r.lB.length≤4) (hs:r.lC.length≤2) (hl:r.lA.length≤7) (hn:101≤n):BZ n see r s=(Dy r).foldlM (fun s q=>see s (He r q).1 (He r q).2) s:=by
  unfold BZ
  have e:=NR see r hb hs hl (2*r.lB.length+r.lC.length) n 0 TS.1 TS.2 s (by omega) (by omega) ⟨W7 _,W7 _,W7 _,W7 _⟩
  rw [W1] at e
  show(control_Route_every_1 n see TS.1 TS.2 0 _ r s).bind _=_
  rw [e]
  show Option.bind _ some=_
  cases hR:Kx see r (2*r.lB.length+r.lC.length) 0 TS.1 TS.2 s <;> exact hR.symm
end
open Go Go.RowKit
def Sk (b:Bool):Int:=if b then 1 else 0
def enc (a:An):List Int:=a.lD++a.lE++a.lC.map Sk
def Ff (r:Af) (q:List Int):An:=⟨q.take r.lB.length,(q.drop r.lB.length).take r.lB.length,(q.drop (2*r.lB.length)).map fun v=>v == 1⟩
def Jr (a:An):Int:=(a.lD.map fun h=>min h 1).sum+(a.lE.map fun t=>min (t+1) 1).sum+(a.lC.map Sk).sum
def KJ (a:An):Int:=a.lD.sum
def Pm:List Int→List Int→Bool
  | x::xs,y::ys=>if x=y then Pm xs ys else decide (x<y)
  | _,_=>false
def DZ (a b:An):Bool:=if Jr a=Jr b then(if KJ a=KJ b then Pm (enc a) (enc b) else decide (KJ a<KJ b)) else decide (Jr a<Jr b)
theorem Ix:∀ x:List Int,Pm x x=false
  | []=>rfl
  | x::xs=>by rw [Pm,if_pos rfl,Ix xs]
theorem P5:∀ {x y:List Int},Pm x y=true→Pm y x=false
  | [],y,h=>by simp [Pm] at h
  | x::xs,[],h=>by simp [Pm] at h
  | x::xs,y::ys,h=>by
    rw [Pm] at h ⊢
    by_cases e:x=y
    · subst e
      rw [if_pos rfl] at h ⊢
      exact P5 h
    · rw [if_neg e] at h
      rw [if_neg (Ne.symm e)]
      have:=of_decide_eq_true h
      exact decide_eq_false (by omega)
def Js (nb:Nat):Nat→List Int→Int
  | _,[]=>0
  | k,v::q=>(if k<nb then min v 1 else if k<2*nb then min (v+1) 1 else v)+Js nb (k+1) q
def Jt (nb:Nat):Nat→List Int→Int
  | _,[]=>0
  | k,v::q=>(if k<nb then v else 0)+Jt nb (k+1) q
theorem P6 (nb:Nat):∀ (q:List Int)(k:Nat)(p:Ar×Bn),(F8 nb k q p).2=⟨p.2.lJ+Js nb k q,p.2.sum+Jt nb k q⟩
  | [],k,p=>by simp [F8,Js,Jt]
  | v::q,k,p=>by
    rw [F8,P6 nb q (k+1),Js,Jt]
    unfold DG
    by_cases c1:k<nb
    · simp only [c1,if_true,Int.add_assoc]
    · by_cases c2:k<2*nb
      · simp only [c1,c2,if_true,if_false,Int.add_assoc,Int.zero_add]
      · simp only [c1,c2,if_false,Int.add_assoc,Int.zero_add]
theorem Ju (nb:Nat):∀ (x y:List Int)(k:Nat),Js nb k (x++y)=Js nb k x+Js nb (k+x.length) y
  | [],y,k=>by simp [Js]
  | v::x,y,k=>by
    rw [List.cons_append,Js,Ju nb x y (k+1),Js,Int.add_assoc,WT,show k+1+x.length=k+(x.length+1) by omega]
theorem Jv (nb:Nat):∀ (x y:List Int)(k:Nat),Jt nb k (x++y)=Jt nb k x+Jt nb (k+x.length) y
  | [],y,k=>by simp [Jt]
  | v::x,y,k=>by
    rw [List.cons_append,Jt,Jv nb x y (k+1),Jt,Int.add_assoc,WT,show k+1+x.length=k+(x.length+1) by omega]
theorem NS (nb:Nat):∀ (x:List Int)(k:Nat),k+x.length≤nb→Js nb k x=(x.map fun h=>min h 1).sum∧Jt nb k x=x.sum
  | [],_,_=>⟨rfl,rfl⟩
  | v::x,k,h=>by
    rw [WT] at h
    have IH:=NS nb x (k+1) (by omega)
    rw [Js,Jt,IH.1,IH.2,if_pos (by omega),if_pos (by omega),W8,List.sum_cons,List.sum_cons]
    exact⟨rfl,rfl⟩
theorem NT (nb:Nat):∀ (x:List Int)(k:Nat),nb≤k→k+x.length≤2*nb→Js nb k x=(x.map fun t=>min (t+1) 1).sum∧Jt nb k x=0
  | [],_,_,_=>⟨rfl,rfl⟩
  | v::x,k,h0,h=>by
    rw [WT] at h
    have IH:=NT nb x (k+1) (by omega) (by omega)
    rw [Js,Jt,IH.1,IH.2,if_neg (by omega),if_pos (by omega),if_neg (by omega),W8,List.sum_cons]
    exact⟨rfl,rfl⟩
theorem MK (nb:Nat):∀ (x:List Int)(k:Nat),2*nb≤k→Js nb k x=x.sum∧Jt nb k x=0
  | [],_,_=>⟨rfl,rfl⟩
  | v::x,k,h0=>by
    have IH:=MK nb x (k+1) (by omega)
    rw [Js,Jt,IH.1,IH.2,if_neg (by omega),if_neg (by omega),if_neg (by omega),List.sum_cons]
    exact⟨rfl,rfl⟩
theorem Jw (nb:Nat):∀ (x y:List Int)(k:Nat)(p:Ar×Bn),F8 nb k (x++y) p=F8 nb (k+x.length) y (F8 nb k x p)
  | [],y,k,p=>rfl
  | v::x,y,k,p=>by
    rw [List.cons_append,F8,Jw nb x y (k+1),F8,WT,show k+1+x.length=k+(x.length+1) by omega]
theorem Mn {α:Type} (l x:List α) (v:α) (k:Nat) (h:k+(x.length+1)≤l.length):(l.set k v).take (k+1)++x++(l.set k v).drop (k+1+x.length)=l.take k++v::x++l.drop (k+(x.length+1)):=by
  have hk:k<l.length:=by omega
  have h1:(l.set k v).take (k+1)=l.take k++[v]:=by
    rw [List.take_succ,WY hk,List.take_set_of_le (Nat.le_refl k)]; rfl
  rw [h1,List.drop_set_of_lt (by omega),show k+1+x.length=k+(x.length+1) by omega]
  simp
theorem NU (nb:Nat) (hnb:nb≤4):∀ (x:List Int)(k:Nat)(p:Ar×Bn),k+x.length≤nb→(F8 nb k x p).1.lD.toL=p.1.lD.toL.take k++x++p.1.lD.toL.drop (k+x.length)∧(F8 nb k x p).1.lE=p.1.lE∧(F8 nb k x p).1.lC=p.1.lC
  | [],k,p,_=>by simp [F8]
  | v::x,k,p,h=>by
    rw [WT] at h
    have e:DG nb k v p=(⟨p.1.lD.put k v,p.1.lE,p.1.lC⟩,⟨p.2.lJ+min v 1,p.2.sum+v⟩):=by unfold DG; rw [if_pos (by omega)]
    have IH:=NU nb hnb x (k+1) (DG nb k v p) (by omega)
    rw [F8]
    refine⟨?_,by rw [IH.2.1,e],by rw [IH.2.2,e]⟩
    rw [IH.1,e]
    simp only []
    rw [AS.toL_put _ _ _ (by omega),WT]
    exact Mn _ _ _ _ (by show k+(x.length+1)≤4; omega)
theorem NV (nb:Nat) (hnb:nb≤4):∀ (x:List Int)(k:Nat)(p:Ar×Bn),nb≤k→k+x.length≤2*nb→(F8 nb k x p).1.lE.toL=p.1.lE.toL.take (k-nb)++x++p.1.lE.toL.drop (k-nb+x.length)∧(F8 nb k x p).1.lD=p.1.lD∧(F8 nb k x p).1.lC=p.1.lC
  | [],k,p,_,_=>by simp [F8]
  | v::x,k,p,h0,h=>by
    rw [WT] at h
    have e:DG nb k v p=(⟨p.1.lD,p.1.lE.put (k-nb) v,p.1.lC⟩,⟨p.2.lJ+min (v+1) 1,p.2.sum⟩):=by unfold DG; rw [if_neg (by omega),if_pos (by omega)]
    have IH:=NV nb hnb x (k+1) (DG nb k v p) (by omega) (by omega)
    rw [F8]
    refine⟨?_,by rw [IH.2.1,e],by rw [IH.2.2,e]⟩
    rw [IH.1,e]
    simp only []
    rw [AS.toL_put _ _ _ (by omega),WT,show k+1-nb=k-nb+1 by omega]
    exact Mn _ _ _ _ (by show k-nb+(x.length+1)≤4; omega)
theorem ML (nb:Nat):∀ (x:List Int)(k:Nat)(p:Ar×Bn),2*nb≤k→k+x.length≤2*nb+2→(F8 nb k x p).1.lC.toL=p.1.lC.toL.take (k-2*nb)++(x.map fun v=>v == 1)++p.1.lC.toL.drop (k-2*nb+x.length)∧(F8 nb k x p).1.lD=p.1.lD∧(F8 nb k x p).1.lE=p.1.lE
  | [],k,p,_,_=>by simp [F8]
  | v::x,k,p,h0,h=>by
    rw [WT] at h
    have e:DG nb k v p=(⟨p.1.lD,p.1.lE,p.1.lC.put (k-2*nb) (v == 1)⟩,⟨p.2.lJ+v,p.2.sum⟩):=by unfold DG; rw [if_neg (by omega),if_neg (by omega)]
    have IH:=ML nb x (k+1) (DG nb k v p) (by omega) (by omega)
    rw [F8]
    refine⟨?_,by rw [IH.2.1,e],by rw [IH.2.2,e]⟩
    rw [IH.1,e]
    simp only []
    rw [Bd.toL_put _ _ _ (by omega),WT,show k+1-2*nb=k-2*nb+1 by omega,W8]
    have:=Mn p.1.lC.toL (x.map fun v=>v == 1) (v == 1) (k-2*nb) (by rw [WG]; show k-2*nb+(x.length+1)≤2; omega)
    rw [WG] at this
    exact this
def IW (r:Af) (d:Ar):An:=⟨d.lD.toL.take r.lB.length,d.lE.toL.take r.lB.length,d.lC.toL.take r.lC.length⟩
theorem Ud {α:Type} (xs:List α) (i:Nat) (h:i≤xs.length):O8 xs (i:Int)=some (xs.take i):=by
  unfold O8; rw [if_pos (by omega)]; rfl
theorem Ky (n:Nat) (r:Af) (d:Ar) (hb:r.lB.length≤4) (hs:r.lC.length≤2):Cl n d r=some (IW r d):=by
  unfold Cl
  rw [Ud _ _ (by show _≤4; exact hb),Wz,Ud _ _ (by show _≤4; exact hb),Wz,Ud _ _ (by show _≤2; exact hs),Wz]
  rw [Ln n _ (by simp; omega),Wz,Ln n _ (by simp; omega),Wz,Tz n _ (by simp; omega),Wz]
  rfl
theorem Mo (r:Af) (q:List Int) (hb:r.lB.length≤4) (hs:r.lC.length≤2) (hq:q.length=2*r.lB.length+r.lC.length) (h01:∀ v∈q.drop (2*r.lB.length),v=0∨v=1) :
    IW r (He r q).1=Ff r q∧(He r q).2=⟨Jr (Ff r q),KJ (Ff r q)⟩∧enc (Ff r q)=q:=by
  have e0:q=q.take r.lB.length++((q.drop r.lB.length).take r.lB.length++q.drop (2*r.lB.length)):=by
    have e2:q.drop (2*r.lB.length)=(q.drop r.lB.length).drop r.lB.length:=by rw [List.drop_drop]; congr 1; omega
    rw [e2,List.take_append_drop,List.take_append_drop]
  have l1:(q.take r.lB.length).length=r.lB.length:=by rw [WZ]; omega
  have l2:((q.drop r.lB.length).take r.lB.length).length=r.lB.length:=by rw [WZ,List.length_drop]; omega
  have l3:(q.drop (2*r.lB.length)).length=r.lC.length:=by rw [List.length_drop]; omega
  have hbits:((q.drop (2*r.lB.length)).map fun v=>v == 1).map Sk=q.drop (2*r.lB.length):=by
    rw [List.map_map]
    conv=>rhs; rw [← List.map_id (q.drop (2*r.lB.length))]
    refine WI fun v hv=>?_
    rcases h01 v hv with rfl | rfl <;> rfl
  have e3:enc (Ff r q)=q:=by
    unfold enc Ff
    simp only []
    rw [hbits,W0]
    exact e0.symm
  refine⟨?_,?_,e3⟩
  · unfold He IW Ff
    generalize hX:q.take r.lB.length=X at *
    generalize hY:(q.drop r.lB.length).take r.lB.length=Y at *
    generalize hZ:q.drop (2*r.lB.length)=Z at *
    rw [e0,Jw,Jw]
    have a1:=NU r.lB.length hb X 0 TS (by omega)
    have a2:=NV r.lB.length hb Y (0+X.length) (F8 r.lB.length 0 X TS) (by omega) (by omega)
    have a3:=ML r.lB.length Z (0+X.length+Y.length) (F8 r.lB.length (0+X.length) Y (F8 r.lB.length 0 X TS)) (by omega) (by omega)
    rw [a3.1,a3.2.1,a3.2.2,a2.1,a2.2.1,a2.2.2,a1.1,a1.2.1,a1.2.2]
    simp only [Xa,l1,l2,l3,Nat.sub_self,List.take_zero,W2,An.mk.injEq]
    rw [show r.lB.length+r.lB.length-2*r.lB.length=0 by omega]
    refine⟨?_,?_,?_⟩
    · conv=>lhs; rw [← l1]
      rw [List.take_left']
      rfl
    · conv=>lhs; rw [← l2]
      rw [List.take_left']
      rfl
    · rw [List.take_zero,W2]
      conv=>lhs; rw [← l3]
      rw [List.take_left']
      simp
  · unfold He
    rw [P6]
    show Bn.mk (0+Js r.lB.length 0 q) (0+Jt r.lB.length 0 q)=_
    rw [Int.zero_add,Int.zero_add]
    conv=>lhs; rw [e0]
    rw [Ju,Jv,Ju,Jv]
    have a1:=NS r.lB.length (q.take r.lB.length) 0 (by omega)
    have a2:=NT r.lB.length ((q.drop r.lB.length).take r.lB.length) (0+(q.take r.lB.length).length) (by omega) (by omega)
    have a3:=MK r.lB.length (q.drop (2*r.lB.length)) (0+(q.take r.lB.length).length+((q.drop r.lB.length).take r.lB.length).length) (by omega)
    rw [a1.1,a1.2,a2.1,a2.2,a3.1,a3.2]
    unfold Jr KJ Ff
    simp only []
    rw [hbits]
    simp only [Int.add_zero,Bn.mk.injEq]
    exact⟨by omega,trivial⟩
theorem Hf (r:Af):∀ (n k:Nat)(q:List Int),q∈Iw r n k↔q.length=n∧∀ (i:Nat)(h:i<q.length),q[i]∈Hc r (k+i)
  | 0,k,q=>by
    rw [Iw,List.mem_singleton]
    constructor
    · rintro rfl; exact⟨rfl,fun i h=>absurd h (Nat.not_lt_zero _)⟩
    · rintro⟨h,_⟩; exact List.length_eq_zero_iff.1 h
  | n+1,k,q=>by
    rw [Iw,List.mem_flatMap]
    constructor
    · rintro⟨v,hv,hq⟩
      obtain⟨q',hq',rfl⟩:=List.mem_map.1 hq
      have IH:=(Hf r n (k+1) q').1 hq'
      refine⟨by rw [WT,IH.1],fun i h=>?_⟩
      cases i with
      | zero=>exact hv
      | succ i =>
        have:=IH.2 i (by simpa using h)
        rw [show k+(i+1)=k+1+i by omega]
        simpa using this
    · rintro⟨h1,h2⟩
      cases q with
      | nil=>simp at h1
      | cons v q =>
        refine⟨v,h2 0 (by simp),List.mem_map.2 ⟨q,(Hf r n (k+1) q).2 ⟨by simpa using h1,fun i h=>?_⟩,rfl⟩⟩
        have:=h2 (i+1) (by simpa using h)
        rw [show k+(i+1)=k+1+i by omega] at this
        simpa using this
theorem MM (r:Af) (b:CW) (t:Int) (h0:0≤b.stop):t∈N4 r b↔KI r b t=true:=by
  unfold N4
  rw [List.mem_filter,List.mem_map]
  constructor
  · exact fun h=>h.2
  · intro h
    refine⟨?_,h⟩
    have h2:=h
    unfold KI at h2
    rw [Bool.or_eq_true,decide_eq_true_eq,decide_eq_true_eq] at h2
    exact⟨(t+1).toNat,by rw [WJ]; omega,by omega⟩
theorem Rj (r:Af) (k:Nat):(Hc r k).Pairwise (· < ·):=by
  unfold Hc
  split
  · decide
  · split
    · unfold N4
      refine List.Pairwise.filter _ ?_
      rw [List.pairwise_map]
      exact List.pairwise_lt_range.imp fun h=>by omega
    · decide
theorem MN (r:Af):∀ n k:Nat,(Iw r n k).Pairwise fun a b=>Pm a b=true
  | 0,_=>List.pairwise_singleton _ _
  | n+1,k=>by
    rw [Iw,List.pairwise_flatMap]
    refine⟨fun v _=>?_,(Rj r k).imp fun {a b} hab=>?_⟩
    · rw [List.pairwise_map]
      exact(MN r n (k+1)).imp fun h=>by rw [Pm,if_pos rfl]; exact h
    · intro x hx y hy
      obtain⟨x',_,rfl⟩:=List.mem_map.1 hx
      obtain⟨y',_,rfl⟩:=List.mem_map.1 hy
      rw [Pm,if_neg (by omega)]
      exact decide_eq_true hab
theorem Iy {r:Af} {q:List Int} (h:q∈Dy r):q.length=2*r.lB.length+r.lC.length∧∀ v∈q.drop (2*r.lB.length),v=0∨v=1:=by
  obtain⟨h1,h2⟩:=(Hf r _ 0 q).1 h
  refine⟨h1,fun v hv=>?_⟩
  obtain⟨i,hi,rfl⟩:=List.mem_iff_getElem.1 hv
  rw [List.length_drop] at hi
  have:=h2 (2*r.lB.length+i) (by omega)
  unfold Hc at this
  rw [if_neg (by omega),if_neg (by omega)] at this
  rw [List.getElem_drop]
  simpa using this
theorem P7 {r:Af} (V:Ct r) {q:List Int} (h:q∈Dy r):EB r (Ff r q)=true:=by
  have h01:=Iy h
  obtain⟨h1,h2⟩:=(Hf r _ 0 q).1 h
  have l1:(q.take r.lB.length).length=r.lB.length:=by rw [WZ]; omega
  have l2:((q.drop r.lB.length).take r.lB.length).length=r.lB.length:=by rw [WZ,List.length_drop]; omega
  unfold EB Ff
  simp only [WP,decide_eq_true_eq,WQ,WJ]
  refine⟨⟨l1,l2,by rw [WG,List.length_drop]; omega⟩,fun i hi=>?_⟩
  unfold IV
  simp only []
  rw [BO _ _ (by omega),BO _ _ (by omega),List.getElem_take,List.getElem_take,List.getElem_drop]
  have a1:=h2 i (by omega)
  have a2:=h2 (r.lB.length+i) (by omega)
  unfold Hc at a1 a2
  rw [if_pos (by omega)] at a1
  rw [if_neg (by omega),if_pos (by omega),show 0+(r.lB.length+i)-r.lB.length=i by omega,MM r _ _ (by rw [BO _ _ hi]; exact(V.lB _ (W5 hi)).1)] at a2
  rw [WP]
  refine⟨decide_eq_true ?_,a2⟩
  simp only [List.mem_cons,List.not_mem_nil,or_false] at a1
  omega
theorem P8 {r:Af} (V:Ct r) {a:An} (h:EB r a=true):enc a∈Dy r∧Ff r (enc a)=a:=by
  have A:=GU h
  have l1:=A.lD
  have l2:=A.lE
  have l3:=A.lC
  have hlen:(enc a).length=2*r.lB.length+r.lC.length:=by unfold enc; rw [WU,WU,WG]; omega
  constructor
  · refine(Hf r _ 0 _).2 ⟨hlen,fun i hi=>?_⟩
    rw [Xa]
    have hi':i<(a.lD++a.lE++a.lC.map Sk).length:=hi
    unfold Hc
    by_cases c1:i<r.lB.length
    · rw [if_pos c1]
      have:(enc a)[i]'hi=a.lD[i]:=by
        show(a.lD++a.lE++a.lC.map Sk)[i]'hi' = _
        rw [List.getElem_append_left (by rw [WU]; omega),List.getElem_append_left (by omega)]
      rw [this]
      have:=A.hold i c1
      rw [BO _ _ (by omega)] at this
      simp only [List.mem_cons,List.not_mem_nil,or_false]
      omega
    · rw [if_neg c1]
      by_cases c2:i<2*r.lB.length
      · rw [if_pos c2]
        have hib:i-r.lB.length<r.lB.length:=by omega
        rw [MM r _ _ (by rw [BO _ _ hib]; exact(V.lB _ (W5 hib)).1)]
        have:(enc a)[i]'hi=a.lE[i-r.lB.length]!:=by
          rw [BO _ _ (by omega)]
          show(a.lD++a.lE++a.lC.map Sk)[i]'hi' = _
          rw [List.getElem_append_left (by rw [WU]; omega),List.getElem_append_right (by omega)]
          congr 1; omega
        rw [this]
        have:=A.turn _ hib
        unfold KI
        rw [Bool.or_eq_true,decide_eq_true_eq,decide_eq_true_eq]
        exact this
      · rw [if_neg c2]
        have:(enc a)[i]'hi=Sk (a.lC[i-2*r.lB.length]'(by rw [l3]; omega)):=by
          show(a.lD++a.lE++a.lC.map Sk)[i]'hi' = _
          rw [List.getElem_append_right (by rw [WU]; omega),WF]
          congr 2; rw [WU]; omega
        rw [this]
        unfold Sk
        split <;> simp
  · unfold Ff enc
    have e1:(a.lD++a.lE++a.lC.map Sk).take r.lB.length=a.lD:=by
      rw [W0,← l1,List.take_left']; rfl
    have e2:(a.lD++a.lE++a.lC.map Sk).drop r.lB.length=a.lE++a.lC.map Sk:=by
      rw [W0,← l1,List.drop_left']; rfl
    have e3:(a.lD++a.lE++a.lC.map Sk).drop (2*r.lB.length)=a.lC.map Sk:=by
      rw [List.drop_left']; rw [WU]; omega
    rw [e1,e2,e3]
    have e4:(a.lE++a.lC.map Sk).take r.lB.length=a.lE:=by
      rw [← l2,List.take_left']; rfl
    have e5:((a.lC.map Sk).map fun v=>v == 1)=a.lC:=by
      rw [List.map_map]
      conv=>rhs; rw [← List.map_id a.lC]
      exact WI fun b _=>by cases b <;> rfl
    rw [e4,e5]
open Go Go.RowKit
theorem Iz {α:Type} (f:α→Int):∀ (l:List α)(b g:Int),l.foldl (fun b m=>max b (f m)) b≤g↔b≤g∧∀ m∈l,f m≤g
  | [],b,g=>by simp
  | m::l,b,g=>by
    rw [WS,Iz f l]
    simp only [List.mem_cons,forall_eq_or_imp]
    constructor
    · rintro⟨h1,h2⟩; exact⟨by omega,by omega,h2⟩
    · rintro⟨h1,h2,h3⟩; exact⟨by omega,h3⟩
theorem Ea {m e:Int}:∀ {l:List Rg} {to_:Int},e≤Ch m to_ l↔e≤to_∧∀ p∈l,p.lo>m→e≤p.hi
  | [],to_=>by simp [Ch]
  | p::r,to_=>by
    show e≤Ch m (if p.lo>m then min to_ p.hi else to_) r↔_
    rw [Ea]
    simp only [List.mem_cons,forall_eq_or_imp]
    by_cases h:p.lo>m
    · simp only [h,if_true,true_implies]
      constructor
      · rintro⟨h1,h2⟩; exact⟨by omega,by omega,h2⟩
      · rintro⟨h1,h2,h3⟩; exact⟨by omega,h3⟩
    · simp only [h,if_false,false_implies,true_and]
theorem SM {fr to_ g:Int} {l:List Rg}:WR fr to_ l≤g↔0≤g∧∀ m∈DC fr to_ l,Ch m to_ l-m≤g:=Iz _ _ _ _
theorem Mp (fr to_:Int) (l:List Rg):0≤WR fr to_ l:=(SM.1 (W7 _)).1
theorem I0 (m to_:Int) (l:List Rg):Ch m to_ l≤to_:=(Ea.1 (W7 _)).1
theorem Ue {fr to_:Int} {l:List Rg} (h:fr≤to_):WR fr to_ l≤to_-fr:=SM.2 ⟨by omega,fun m hm=>by
  have:=Gt h hm
  have:=I0 m to_ l
  omega⟩
theorem NW {fr to_ m:Int} (h0:fr≤m) (h1:m≤to_):∀ l:List Rg,∃ x∈DC fr to_ l,x≤m∧fr≤x∧∀ p∈l,p.lo≤m→p.lo≤x
  | []=>⟨fr,by simp [DC],h0,W7 _,by simp⟩
  | p::r=>by
    obtain⟨x,hx,h2,h3,h4⟩:=NW h0 h1 r
    have sub:∀ z∈DC fr to_ r,z∈DC fr to_ (p::r):=fun z hz=>by
      unfold DC at hz ⊢
      rcases List.mem_cons.1 hz with rfl | hz
      · simp
      · obtain⟨q,hq,rfl⟩:=List.mem_map.1 hz
        rw [List.mem_filter] at hq
        exact W9 _ (WD (List.mem_filter.2 ⟨W9 _ hq.1,hq.2⟩))
    by_cases hp:x<p.lo∧p.lo≤m
    · refine⟨p.lo,?_,hp.2,by omega,fun q hq hqm=>?_⟩
      · unfold DC
        refine W9 _ (WD (List.mem_filter.2 ⟨by simp,?_⟩))
        rw [WP,decide_eq_true_eq,decide_eq_true_eq]
        omega
      · rcases List.mem_cons.1 hq with rfl | hq
        · exact W7 _
        · have:=h4 q hq hqm; omega
    · refine⟨x,sub x hx,h2,h3,fun q hq hqm=>?_⟩
      rcases List.mem_cons.1 hq with rfl | hq
      · omega
      · exact h4 q hq hqm
theorem Uf {fr to_ m:Int} {l:List Rg} (h0:fr≤m) (h1:m≤to_):Ch m to_ l-m≤WR fr to_ l:=by
  obtain⟨x,hx,h2,h3,h4⟩:=NW h0 h1 l
  have:=(SM.1 (W7 (WR fr to_ l))).2 x hx
  have:Ch m to_ l≤Ch x to_ l:=Ea.2 ⟨I0 _ _ _,fun p hp hpx=>by
    rcases Int.lt_or_le m p.lo with h | h
    · exact(Ea.1 (W7 (Ch m to_ l))).2 p hp h
    · have:=h4 p hp h; omega⟩
  omega
def Wj (l l':List Rg):Prop:=∀ p∈l,∃ p'∈l',p.lo≤p'.lo∧p'.hi≤p.hi
theorem Wj.sub {l l':List Rg} (h:∀ p∈l,p∈l'):Wj l l':=fun p hp=>⟨p,h p hp,W7 _,W7 _⟩
theorem VE {fr to_ fr' to':Int} {l l':List Rg} (h:Wj l l') (h0:fr≤fr') (h1:fr'≤to') (h2:to'≤to_):WR fr' to' l'≤WR fr to_ l:=SM.2 ⟨Mp _ _ _,fun m hm=>by
  have hb:=Gt h1 hm
  have:=Uf (fr:=fr) (to_:=to_) (m:=m) (l:=l) (by omega) (by omega)
  have:Ch m to' l'≤Ch m to_ l:=Ea.2 ⟨Int.le_trans (I0 _ _ _) h2,fun p hp hpm=>by
    obtain⟨p',hp',h3,h4⟩:=h p hp
    have:=(Ea.1 (W7 (Ch m to' l'))).2 p' hp' (by omega)
    omega⟩
  omega⟩
def maxL:List Int→Int
  | []=>0
  | x::xs=>xs.foldl (fun b x=>max b x) x
def maxW (r:Af) (a:An):Int:=maxL (BK r a)
theorem Qu {l:List Int} {g:Int} (h:l≠[]):maxL l≤g↔∀ w∈l,w≤g:=by
  cases l with
  | nil=>exact absurd rfl h
  | cons x xs =>
    unfold maxL
    rw [Iz (fun x=>x)]
    simp
theorem Hz (r:Af) (a:An):BK r a≠[]:=by
  unfold BK
  rw [List.range_succ]; simp
theorem N5 {r:Af} {a:An} {g:Int}:maxW r a≤g↔∀ w∈BK r a,w≤g:=Qu (Hz r a)
theorem Nu {r:Af} {a:An} {w:Int} (h:w∈BK r a):0≤w:=by
  obtain⟨k,_,rfl⟩:=List.mem_map.1 h
  exact Mp _ _ _
theorem NX {r:Af} (V:Ct r) (a:An):0≤maxW r a∧maxW r a≤r.to_-r.fr:=by
  constructor
  · have h:=Hz r a
    obtain⟨w,hw⟩:=List.exists_mem_of_ne_nil _ h
    exact Int.le_trans (Nu hw) (N5.1 (W7 _) w hw)
  · refine N5.2 fun w hw=>?_
    obtain⟨k,_,rfl⟩:=List.mem_map.1 hw
    exact Ue V.lG.2.1
theorem P9 (x:List Int) (hx:x.length≤100):∀ (n i:Nat)(b:Int),x.length<n+i→i≤x.length→BG n x (i:Int) b=some ((x.drop i).foldl (fun b x=>max b x) b)
  | 0,i,b,h,hi=>by omega
  | n+1,i,b,h,hi=>by
    rw [BG,BC]
    by_cases hxi:i<x.length
    · simp only [hxi,decide_true,cond_true]
      rw [AH _ _ hxi,Wz,Dc i (by omega),P9 x hx n (i+1) _ (by omega) (by omega),AR hxi,WS]
      rw [show(if x[i]>b then x[i] else b)=max b x[i] by omega]
    · have:i=x.length:=by omega
      simp [this]
theorem T3 (n:Nat) (l:List Int) (hn:101<n) (h:l≠[]) (hl:l.length≤100):DH n l=some (maxL l):=by
  cases l with
  | nil=>exact absurd rfl h
  | cons x xs =>
    unfold DH Ei
    have e:=P9 (x::xs) hl n 1 x (by omega) (by simp)
    rw [decide_eq_false (by rw [WT]; omega),cond_false]
    show Option.bind (Option.bind (some x) _) _=_
    rw [Wz]
    rw [show((1:Nat):Int)=1 from rfl] at e
    rw [e]
    rfl
def Hg (r:Af) (a:An) (g:Int):Bool:=(BK r a).all fun w=>decide (w≤g)
theorem KM {r:Af} {a:An} {g:Int}:Hg r a g=true↔maxW r a≤g:=by
  rw [N5]
  unfold Hg
  simp [WQ]
theorem MO (r:Af) (most:Int) (sp:List (List (Int×Rg))) (hs:sp.length≤50) (hl:∀ l∈sp,l.length≤20∧∀ p∈l.map Prod.snd,p.lo≤p.hi) (h0:0≤r.fr) (h1:r.fr≤r.to_) (h2:r.to_≤2000):∀ (n i:Nat),sp.length+60<n+i→i≤sp.length →
    B8 n r most (sp.map DO.mk) (i:Int)=some ((sp.drop i).all fun l=>decide (WR r.fr r.to_ (l.map Prod.snd)≤most))
  | 0,i,h,hi=>by omega
  | n+1,i,h,hi=>by
    rw [B8,BC,WG]
    by_cases hx:i<sp.length
    · simp only [hx,decide_true,cond_true]
      rw [AH _ i (by simpa using hx)]
      simp only [Wz,WF]
      have:=hl _ (W5 hx)
      rw [P4 n r _ (by omega) this.1 this.2 h0 h1 h2]
      simp only [Wz]
      rw [AR hx,WL]
      by_cases hw:WR r.fr r.to_ (sp[i].map Prod.snd)≤most
      · rw [decide_eq_false (show ¬ WR r.fr r.to_ (sp[i].map Prod.snd)>most by omega),cond_false,decide_eq_true hw,WN]
        rw [Dc i (by omega),MO r most sp hs hl h0 h1 h2 n (i+1) (by omega) (by omega)]
      · rw [decide_eq_true (show WR r.fr r.to_ (sp[i].map Prod.snd)>most by omega),cond_true,decide_eq_false hw,WO]
    · have:i=sp.length:=by omega
      simp [this]
theorem Ug (n:Nat) (r:Af) (d:Ar) (most:Int) (V:Ct r) (hA:EB r (IW r d)=true) (hn:110≤n) (hn2:n≤900):CT n r d most=some (Hg r (IW r d) most):=by
  have A:=GU hA
  have:=V.nl
  have:=V.nb
  have:=V.ns
  have:=V.lG
  unfold CT
  rw [Ky n r d V.nb V.ns,Wz,NQ n r _ V A (by omega) hn2,Wz]
  have e:=MO r most ((List.range (r.lA.length+1)).map fun(k:Nat)=>AG ((r.lA.length:Int)+1) 40 k 0 (CD r (IW r d))) (by simp; omega) (fun l hl=>by
    obtain⟨k,_,rfl⟩:=List.mem_map.1 hl
    refine⟨?_,by rw [CA]; exact Mm V A k⟩
    have h1:(AG ((r.lA.length:Int)+1) 40 k 0 (CD r (IW r d))).length=((AG ((r.lA.length:Int)+1) 40 k 0 (CD r (IW r d))).map Prod.snd).length:=by simp
    rw [h1,CA]
    refine Nat.le_trans (WW _ _) ?_
    rw [← Kd,List.length_zip]
    have:=GO r (IW r d) Rg.lo
    omega) (by omega) (by omega) (by omega) n 0 (by simp; omega) (by omega)
  rw [List.map_map,W1,W3,List.all_map] at e
  rw [show(DO.mk ∘ fun(k:Nat)=>AG ((r.lA.length:Int)+1) 40 k 0 (CD r (IW r d)))=fun(k:Nat)=>DO.mk (AG ((r.lA.length:Int)+1) 40 k 0 (CD r (IW r d))) from rfl] at e
  rw [e,Wz]
  unfold Hg BK
  rw [List.all_map]
  simp only [Function.comp_def,CA,AI]
def Ke (r:Af) (x y:List Int):Bool:=DZ (Ff r x) (Ff r y)
def MP (r:Af) (x y:List Int):Bool:=decide (Jr (Ff r x)<Jr (Ff r y)) || (decide (Jr (Ff r x)=Jr (Ff r y)) && decide (KJ (Ff r x)<KJ (Ff r y)))
def Kz (r:Af) (o:Option (List Int)) (q:List Int):Option (List Int):=match o with
  | none=>if Hg r (Ff r q) r.gap then some q else none
  | some y=>if MP r q y && Hg r (Ff r q) r.gap then some q else some y
def Po (r:Af):Option (List Int)→Bool×Bn×Ar
  | none=>(false,TS.2,TS.1)
  | some q=>(true,(He r q).2,(He r q).1)
theorem Vd (c l:Bn):(bif ((c.lJ == l.lJ) && ((c.sum == l.sum) && true)) then some true else(bif decide (c.lJ>l.lJ) then some true else(bif (c.lJ == l.lJ) then some (decide (c.sum>l.sum)) else some false)))=some (!(decide (c.lJ<l.lJ) || (decide (c.lJ=l.lJ) && decide (c.sum<l.sum)))):=by
  by_cases e1:c.lJ=l.lJ
  · rw [decide_eq_false (show ¬ c.lJ>l.lJ by omega),decide_eq_false (show ¬ c.lJ<l.lJ by omega),decide_eq_true e1,beq_iff_eq.2 e1]
    simp only [WN,Bool.and_true,Bool.false_or,cond_false,cond_true]
    by_cases e2:c.sum=l.sum
    · rw [beq_iff_eq.2 e2,decide_eq_false (show ¬ c.sum<l.sum by omega)]; rfl
    · rw [beq_eq_false_iff_ne.2 e2,cond_false]
      congr 1
      by_cases e3:c.sum<l.sum
      · rw [decide_eq_true e3,decide_eq_false (by omega)]; rfl
      · rw [decide_eq_false e3,decide_eq_true (by omega)]; rfl
  · rw [beq_eq_false_iff_ne.2 e1,decide_eq_false e1]
    simp only [WO,Bool.or_false,cond_false]
    by_cases e3:c.lJ<l.lJ
    · rw [decide_eq_true e3,decide_eq_false (by omega)]; rfl
    · rw [decide_eq_false e3,decide_eq_true (by omega)]; rfl
theorem T4 (n:Nat) (r:Af) (V:Ct r) (hn:110≤n) (hn2:n≤900) (o:Option (List Int)) (ho:∀ y,o=some y→y∈Dy r) (q:List Int) (hq:q∈Dy r) :
    Cw n (He r q).1 (He r q).2 (Po r o).1 (Po r o).2.1 (Po r o).2.2 r=some (Po r (Kz r o q)):=by
  have d1:=Mo r q V.nb V.ns (Iy hq).1 (Iy hq).2
  have hk:=Ug n r (He r q).1 r.gap V (by rw [d1.1]; exact P7 V hq) hn hn2
  rw [d1.1] at hk
  unfold Cw
  cases o with
  | none =>
    simp only [Po,Kz,cond_false,Wz]
    rw [hk,Wz]
    cases Hg r (Ff r q) r.gap <;> rfl
  | some y =>
    have hy:=ho y rfl
    have d2:=Mo r y V.nb V.ns (Iy hy).1 (Iy hy).2
    rw [show Po r (some y)=(true,(He r y).2,(He r y).1) from rfl]
    simp only [cond_true]
    rw [Vd,Wz,hk,Wz]
    have hl:(decide ((He r q).2.lJ<(He r y).2.lJ) || (decide ((He r q).2.lJ=(He r y).2.lJ) && decide ((He r q).2.sum<(He r y).2.sum)))=MP r q y:=by
      unfold MP
      rw [d1.2.1,d2.2.1]
    rw [hl]
    unfold Kz
    simp only []
    cases MP r q y <;> cases Hg r (Ff r q) r.gap <;> rfl
theorem PA (n:Nat) (r:Af) (V:Ct r) (hn:110≤n) (hn2:n≤900):∀ (l:List (List Int))(o:Option (List Int)),(∀ y,o=some y→y∈Dy r)→(∀ q∈l,q∈Dy r) →
    l.foldlM (fun s q=>Cw n (He r q).1 (He r q).2 s.1 s.2.1 s.2.2 r) (Po r o)=some (Po r (l.foldl (Kz r) o))
  | [],o,_,_=>rfl
  | q::l,o,ho,hl=>by
    rw [W4,T4 n r V hn hn2 o ho q (hl q (by simp)),WS]
    refine PA n r V hn hn2 l _ (fun y hy=>?_) fun q' hq'=>hl q' (W9 _ hq')
    unfold Kz at hy
    cases o with
    | none =>
      simp only [] at hy
      split at hy
      · cases hy; exact hl _ (by simp)
      · cases hy
    | some z =>
      simp only [] at hy
      split at hy
      · cases hy; exact hl _ (by simp)
      · cases hy; exact ho _ rfl
def V1 (r:Af) (seen:List (List Int)):Option (List Int)→Prop
  | none=>∀ x∈seen,Hg r (Ff r x) r.gap=false
  | some y=>y∈seen∧Hg r (Ff r y) r.gap=true∧∀ x∈seen,Hg r (Ff r x) r.gap=true→Ke r x y=false
theorem PB (r:Af) (he:∀ x∈Dy r,enc (Ff r x)=x):∀ (l seen:List (List Int))(o:Option (List Int)),(seen++l).Pairwise (fun a b=>Pm a b=true)→(∀ x∈seen++l,x∈Dy r)→V1 r seen o→V1 r (seen++l) (l.foldl (Kz r) o)
  | [],seen,o,_,_,h=>by rw [List.append_nil]; exact h
  | q::l,seen,o,hp,hm,h=>by
    rw [WS]
    have e:seen++q::l=(seen++[q])++l:=by simp
    rw [e] at hp hm ⊢
    refine PB r he l (seen++[q]) _ hp hm ?_
    have hq:q∈Dy r:=hm q (by simp)
    have hlt:∀ s∈seen,Pm s q=true:=fun s hs=>by
      rw [List.pairwise_append,List.pairwise_append] at hp
      exact hp.1.2.2 s hs q (by simp)
    have hirr:Ke r q q=false:=by unfold Ke DZ; simp [Ix]
    cases o with
    | none =>
      unfold Kz
      simp only []
      split
      · rename_i hk
        refine⟨by simp,hk,fun x hx hkx=>?_⟩
        rcases List.mem_append.1 hx with hx | hx
        · rw [h x hx] at hkx; cases hkx
        · simp at hx; subst hx; exact hirr
      · rename_i hk
        intro x hx
        rcases List.mem_append.1 hx with hx | hx
        · exact h x hx
        · simp at hx; subst hx; simpa using hk
    | some y =>
      obtain⟨hy,hyk,hyb⟩:=h
      have hya:y∈Dy r:=hm y (List.mem_append_left _ (List.mem_append_left _ hy))
      unfold Kz
      simp only []
      split
      · rename_i hk
        rw [WP] at hk
        refine⟨by simp,hk.2,fun x hx hkx=>?_⟩
        rcases List.mem_append.1 hx with hx | hx
        · have h1:=hyb x hx hkx
          have h2:=hk.1
          unfold MP at h2
          rw [Bool.or_eq_true,WP,decide_eq_true_eq,decide_eq_true_eq,decide_eq_true_eq] at h2
          unfold Ke DZ at h1 ⊢
          split at h1
          · rename_i n1
            split at h1
            · rename_i s1
              rcases h2 with h2 | h2
              · rw [if_neg (by omega)]; exact decide_eq_false (by omega)
              · rw [if_pos (by omega),if_neg (by omega)]; exact decide_eq_false (by omega)
            · rename_i s1
              have:=of_decide_eq_false h1
              rcases h2 with h2 | h2
              · rw [if_neg (by omega)]; exact decide_eq_false (by omega)
              · rw [if_pos (by omega),if_neg (by omega)]; exact decide_eq_false (by omega)
          · rename_i n1
            have:=of_decide_eq_false h1
            rw [if_neg (by omega)]; exact decide_eq_false (by omega)
        · simp at hx; subst hx; exact hirr
      · rename_i hk
        refine⟨List.mem_append_left _ hy,hyk,fun x hx hkx=>?_⟩
        rcases List.mem_append.1 hx with hx | hx
        · exact hyb x hx hkx
        · simp at hx; subst hx
          have h2:MP r x y=false:=by
            cases h3:MP r x y with
            | false=>rfl
            | true=>rw [h3,hkx] at hk; exact absurd rfl hk
          unfold MP at h2
          rw [Bool.or_eq_false_iff,Bool.and_eq_false_iff,decide_eq_false_iff_not,decide_eq_false_iff_not,decide_eq_false_iff_not] at h2
          unfold Ke DZ
          split
          · split
            · rw [he x hq,he y hya]; exact P5 (hlt y hy)
            · exact decide_eq_false (by omega)
          · exact decide_eq_false (by omega)
theorem T5 (n:Nat) (r:Af) (hF:CX r=0) (hn:110≤n) (hn2:n≤900) :
    (∃ b,Ek n r=some (b,0)∧EB r b=true∧maxW r b≤r.gap∧∀ a,EB r a=true→maxW r a≤r.gap→DZ a b=false) ∨
    (Ek n r=some (⟨[],[],[]⟩,9)∧∀ a,EB r a=true→r.gap<maxW r a):=by
  have V:=Ha hF
  have:=V.nl
  have:=V.nb
  have:=V.ns
  unfold Ek
  rw [Rc n r (by omega) (by omega) (by omega) (by omega),hF,Wz]
  simp only [bne_self_eq_false,cond_false]
  have e:BZ n (fun s y0 y1=>Cw n y0 y1 s.1 s.2.1 s.2.2 r) r (false,Bn.mk 0 0,(Ar.mk (AS.mk 0 0 0 0) (AS.mk 0 0 0 0) (Bd.mk false false)))=some (Po r ((Dy r).foldl (Kz r) none)) :=
    (Uc _ n r _ V.nb V.ns V.nl (by omega)).trans (PA n r V hn hn2 (Dy r) none (fun y h=>by cases h) fun q h=>h)
  rw [e,Wz]
  have hw:∀ x∈Dy r,IW r (He r x).1=Ff r x∧(He r x).2=⟨Jr (Ff r x),KJ (Ff r x)⟩∧enc (Ff r x)=x:=fun x hx=>Mo r x V.nb V.ns (Iy hx).1 (Iy hx).2
  have hP:=PB r (fun x hx=>(hw x hx).2.2) (Dy r) [] none (MN r _ 0) (fun x h=>h) (fun x h=>by cases h)
  rw [W2] at hP
  cases ho:(Dy r).foldl (Kz r) none with
  | none =>
    rw [ho] at hP
    refine .inr ⟨rfl,fun a ha=>?_⟩
    obtain⟨h1,h2⟩:=P8 V ha
    have h3:=hP _ h1
    rw [h2] at h3
    rcases Int.lt_or_le r.gap (maxW r a) with h | h
    · exact h
    · rw [KM.2 h] at h3; cases h3
  | some y =>
    rw [ho] at hP
    obtain⟨hy,hyk,hyb⟩:=hP
    refine .inl ⟨Ff r y,?_,P7 V hy,KM.1 hyk,fun a ha hk=>?_⟩
    · simp only [Po,WM,cond_false]
      rw [Ky n r _ V.nb V.ns,(hw y hy).1]
      rfl
    · obtain⟨h1,h2⟩:=P8 V ha
      have h3:=hyb _ h1 (by rw [h2]; exact KM.2 hk)
      unfold Ke at h3
      rw [h2] at h3
      exact h3
open Go Go.RowKit
theorem Rl (n:Nat) (a:An) (h1:a.lD.length≤20) (h2:a.lE.length≤20) (h3:a.lC.length≤20):Gx n a=some a:=by
  unfold Gx
  simp [CZ n _ (show a.lD.length≤1000 by omega),CZ n _ (show a.lE.length≤1000 by omega),DE [] a.lC (by simp; omega)]
open Go Go.RowKit
structure TU (p q:Bj×A8):Prop where
  stop:p.1.stop=q.1.stop
  lF:p.1.lF=q.1.lF
  tm:p.1.tm≤q.1.tm
  turn:p.2.turn≤q.2.turn
  len:p.2.lA.length=q.2.lA.length
  lA:∀ (k:Nat)(d d':Int),p.2.lA[k]? = some d→q.2.lA[k]? = some d'→d≤d'
def FA (st:Int) (p:Bj×A8) (k:Int):Option Int:=Ca (Ci st p.1.lF p.2.turn p.2.lA 40 p.1.tm p.1.stop) k
theorem TU.at {p q:Bj×A8} (h:TU p q) {st:Int} (ht:2*p.1.lF+1<st) (k:Int):(FA st p k=none∧FA st q k=none)∨∃ a b,FA st p k=some a∧FA st q k=some b∧a≤b:=by
  unfold FA
  rw [← h.stop,← h.lF]
  exact HR ht h.len h.lA h.turn 40 _ _ _ k h.tm
theorem Gu {st:Int} {p:(Bj×A8)×(Bj×A8)} {k:Int} {x:Rg}:CM st 40 p k=some x↔FA st p.1 k=some x.lo∧FA st p.2 k=some x.hi:=by
  unfold CM FA
  cases Ca (Ci st p.1.1.lF p.1.2.turn p.1.2.lA 40 p.1.1.tm p.1.1.stop) k with
  | none=>simp
  | some a =>
    cases Ca (Ci st p.2.1.lF p.2.2.turn p.2.2.lA 40 p.2.1.tm p.2.1.stop) k with
    | none=>simp
    | some b =>
      simp only [Option.some.injEq]
      constructor
      · rintro rfl; exact⟨rfl,rfl⟩
      · rintro⟨h1,h2⟩; cases x; simp_all
theorem MQ {st:Int} {p p':(Bj×A8)×(Bj×A8)} (h1:TU p.1 p'.1) (h2:TU p'.2 p.2) (t1:2*p.1.1.lF+1<st) (t2:2*p'.2.1.lF+1<st) {k:Int} {x:Rg} (h:CM st 40 p k=some x):∃ x',CM st 40 p' k=some x'∧x.lo≤x'.lo∧x'.hi≤x.hi:=by
  obtain⟨a1,a2⟩:=Gu.1 h
  rcases h1.at t1 k with⟨b1,_⟩ | ⟨a,b,b1,b2,b3⟩
  · rw [b1] at a1; cases a1
  · rcases h2.at t2 k with⟨_,c1⟩ | ⟨c,d,c1,c2,c3⟩
    · rw [c1] at a2; cases a2
    · rw [b1] at a1; cases a1
      rw [c2] at a2; cases a2
      exact⟨⟨b,c⟩,Gu.2 ⟨b2,c1⟩,b3,c3⟩
structure SN (r x:Af):Prop where
  ll:x.lA.length=r.lA.length
  lA:∀ (i:Nat)(a b:Rg),r.lA[i]? = some a→x.lA[i]? = some b→a.lo≤b.lo∧b.lo≤b.hi∧b.hi≤a.hi
  turn:r.turn.lo≤x.turn.lo∧x.turn.lo≤x.turn.hi∧x.turn.hi≤r.turn.hi
  lb:x.lB.length=r.lB.length
  lB:∀ (i:Nat)(a b:CW),r.lB[i]? = some a→x.lB[i]? = some b→a.stop=b.stop∧a.tm.lo≤b.tm.lo∧b.tm.lo≤b.tm.hi∧b.tm.hi≤a.tm.hi
  lC:x.lC=r.lC
  lI:x.lI=r.lI
  gap:x.gap=r.gap
  fr:x.fr=r.fr
  to_:x.to_=r.to_
theorem SN.valid {r x:Af} (h:SN r x) (V:Ct r):Ct x:=by
  refine⟨by rw [h.lb]; exact V.nb,by rw [h.lC]; exact V.ns,by rw [h.ll]; exact V.odd,by rw [h.ll]; exact V.nl,?_,by rw [h.lI]; exact V.lI,by rw [h.gap]; exact V.gap,by rw [h.fr,h.to_]; exact V.lG,fun b hb=>?_,fun b hb=>?_,?_⟩
  · have:=V.turn; have:=h.turn; omega
  · obtain⟨i,hi,rfl⟩:=List.mem_iff_getElem.1 hb
    have hi':i<r.lA.length:=by rw [← h.ll]; exact hi
    have:=h.lA i _ _ (Wy hi') (Wy hi)
    have:=V.lA _ (W5 hi')
    omega
  · obtain⟨i,hi,rfl⟩:=List.mem_iff_getElem.1 hb
    have hi':i<r.lB.length:=by rw [← h.lb]; exact hi
    have:=h.lB i _ _ (Wy hi') (Wy hi)
    have:=V.lB _ (W5 hi')
    have:=h.ll
    omega
  · rw [h.lC,h.ll]; exact V.lC
theorem SN.acts {r x:Af} (h:SN r x) (a:An):EB x a=EB r a:=by
  unfold EB
  rw [h.lb,h.lC]
  congr 1
  rw [Bool.eq_iff_iff,WQ,WQ]
  have key:∀ i,i<r.lB.length→IV x a i=IV r a i:=fun i hi=>by
    have hi':i<x.lB.length:=by rw [h.lb]; exact hi
    have:=(h.lB i _ _ (Wy hi) (Wy hi')).1
    unfold IV
    rw [BO _ _ hi,BO _ _ hi',this,h.ll]
  constructor
  · intro H i hi; rw [← key i (by simpa using hi)]; exact H i hi
  · intro H i hi; rw [key i (by simpa using hi)]; exact H i hi
theorem SN.legsLo {r x:Af} (h:SN r x):∀ (k:Nat)(d d':Int),(r.lA.map Rg.lo)[k]? = some d→(x.lA.map Rg.lo)[k]? = some d'→d≤d':=fun k d d' h1 h2=>by
  rw [WE] at h1 h2
  obtain⟨a,ha,rfl⟩:=Option.map_eq_some_iff.1 h1
  obtain⟨b,hb,rfl⟩:=Option.map_eq_some_iff.1 h2
  exact(h.lA k a b ha hb).1
theorem SN.legsHi {r x:Af} (h:SN r x):∀ (k:Nat)(d d':Int),(x.lA.map Rg.hi)[k]? = some d→(r.lA.map Rg.hi)[k]? = some d'→d≤d':=fun k d d' h1 h2=>by
  rw [WE] at h1 h2
  obtain⟨a,ha,rfl⟩:=Option.map_eq_some_iff.1 h1
  obtain⟨b,hb,rfl⟩:=Option.map_eq_some_iff.1 h2
  exact(h.lA k b a hb ha).2.2
theorem SN.dom {r x:Af} (h:SN r x) (V:Ct r) {a:An} (A:DX r a) (k:Nat):Wj (AI r a k) (AI x a k):=by
  intro p hp
  have hV:=h.valid V
  unfold AI at hp ⊢
  obtain⟨P,hP,hs⟩:=List.mem_filterMap.1 hp
  rw [h.ll]
  unfold CD at hP
  rcases List.mem_append.1 hP with hP | hP
  · obtain⟨i,hi,rfl⟩:=List.mem_map.1 hP
    have hi:i<r.lB.length:=by simpa using hi
    have hi':i<x.lB.length:=by rw [h.lb]; exact hi
    have hb:=h.lB i _ _ (Wy hi) (Wy hi')
    have o1:=(Lp DQ.low V A i hi).t
    have ht:=h.turn
    have L1:TU (DY r a Rg.lo i) (DY x a Rg.lo i):=by
      refine⟨?_,rfl,?_,ht.1,by simp [DY,h.ll],h.legsLo⟩
      · simp only [DY,BO _ _ hi,BO _ _ hi']; exact hb.1
      · simp only [DY,BO _ _ hi,BO _ _ hi',h.lI]; omega
    have L2:TU (DY x a Rg.hi i) (DY r a Rg.hi i):=by
      refine⟨?_,rfl,?_,ht.2.2,by simp [DY,h.ll],h.legsHi⟩
      · simp only [DY,BO _ _ hi,BO _ _ hi']; exact hb.1.symm
      · simp only [DY,BO _ _ hi,BO _ _ hi',h.lI]; omega
    obtain⟨x',e1,e2,e3⟩:=MQ (p:=(DY r a Rg.lo i,DY r a Rg.hi i)) (p':=(DY x a Rg.lo i,DY x a Rg.hi i)) L1 L2 o1 o1 hs
    refine⟨x',List.mem_filterMap.2 ⟨_,List.mem_append_left _ (WD (List.mem_range.2 hi')),e1⟩,e2,e3⟩
  · obtain⟨j,hj,hc⟩:=List.mem_filterMap.1 hP
    split at hc
    · rename_i hsp
      cases hc
      have hj:j<r.lC.length:=by simpa using hj
      have hj':j<x.lC.length:=by rw [h.lC]; exact hj
      have o1:=(NP DQ.low V j hj).t
      have L1:TU (Hu r Rg.lo j) (Hu x Rg.lo j):=⟨by simp [Hu,h.lC],rfl,by simp [Hu,h.lC],W7 _,by simp [Hu,h.ll],h.legsLo⟩
      have L2:TU (Hu x Rg.hi j) (Hu r Rg.hi j):=⟨by simp [Hu,h.lC],rfl,by simp [Hu,h.lC],W7 _,by simp [Hu,h.ll],h.legsHi⟩
      obtain⟨x',e1,e2,e3⟩:=MQ (p:=(Hu r Rg.lo j,Hu r Rg.hi j)) (p':=(Hu x Rg.lo j,Hu x Rg.hi j)) L1 L2 o1 o1 hs
      refine⟨x',List.mem_filterMap.2 ⟨_,List.mem_append_right _ (List.mem_filterMap.2 ⟨j,List.mem_range.2 hj',by rw [if_pos hsp]⟩),e1⟩,e2,e3⟩
    · cases hc
def SO (v w:List Int):Prop:=v.length=w.length∧∀ (s:Nat)(x y:Int),v[s]? = some x→w[s]? = some y→x≤y
theorem Rm {r x:Af} {a b:An} (hl:x.lA.length=r.lA.length) (h:∀ k<r.lA.length+1,WR x.fr x.to_ (AI x b k)≤WR r.fr r.to_ (AI r a k)):SO (BK x b) (BK r a):=by
  unfold BK
  refine⟨by simp [hl],fun s u v hu hv=>?_⟩
  rw [WE] at hu hv
  obtain⟨i,hi,rfl⟩:=Option.map_eq_some_iff.1 hu
  obtain⟨j,hj,rfl⟩:=Option.map_eq_some_iff.1 hv
  have hs:s<r.lA.length+1:=by
    rcases Nat.lt_or_ge s (r.lA.length+1) with h' | h'
    · exact h'
    · rw [W6 (by simpa using h')] at hj; cases hj
  rw [WK hs] at hj
  rw [hl,WK hs] at hi
  cases hi; cases hj
  exact h s hs
theorem SO.maxL {v w:List Int} (h:SO v w) (hv:v≠[]) (hw:w≠[]):maxL v≤maxL w:=(Qu hv).2 fun x hx=>by
  obtain⟨i,hi⟩:=List.mem_iff_getElem?.1 hx
  have hiv:i<v.length:=by
    rcases Nat.lt_or_ge i v.length with h' | h'
    · exact h'
    · rw [W6 h'] at hi; cases hi
  have hiw:i<w.length:=by rw [← h.1]; exact hiv
  have:=h.2 i x _ hi (Wy hiw)
  have:=(Qu hw).1 (W7 _) _ (W5 hiw)
  omega
theorem SN.worsts {r x:Af} (h:SN r x) (V:Ct r) {a:An} (A:DX r a):SO (BK x a) (BK r a) :=
  Rm h.ll fun k _=>by
    rw [h.fr,h.to_]
    exact VE (h.dom V A k) (W7 _) V.lG.2.1 (W7 _)
theorem SN.maxW {r x:Af} (h:SN r x) (V:Ct r) {a:An} (A:DX r a):maxW x a≤maxW r a:=(h.worsts V A).maxL (Hz _ _) (Hz _ _)
theorem Wk (c:Nat) (l:Nat) (hc:c≤255):Int.tmod (IntKind.i64.wrap (c:Int)) (l:Int)=((c % l:Nat):Int):=by rw [G9 (by omega) (by omega)]; rfl
open Go Go.RowKit
open Go Go.RowKit
def NY (st:Nat) (p:Bj×A8):List Int:=(List.range st).map fun(k:Nat)=>(FA (st:Int) p k).getD (-1)
open Go Go.RowKit
def UY (r:Af) (x:Int):Bool:=decide (r.fr≤x∧x≤r.to_)
def GP:List Int→Int
  | a::b::r=>max (b-a) (GP (b::r))
  | _=>0
theorem Gv:∀ l:List Int,0≤GP l
  | []=>W7 _
  | [_]=>W7 _
  | a::b::r=>by
    have:=Gv (b::r)
    unfold GP
    omega
theorem SP {g:Int} (h0:0≤g):∀ {l:List Int},l.Pairwise (· < ·)→(∀ a∈l,∀ b∈l,a<b→(∀ c∈l,¬ (a<c∧c<b))→b-a≤g)→GP l≤g
  | [],_,_=>h0
  | [_],_,_=>h0
  | a::b::r,hs,h=>by
    rw [List.pairwise_cons] at hs
    have hab:=hs.1 b (by simp)
    have h1:=h a (by simp) b (by simp) hab fun c hc hcc=>by
      rcases List.mem_cons.1 hc with rfl | hc
      · omega
      · rcases List.mem_cons.1 hc with rfl | hc
        · omega
        · have:=(List.pairwise_cons.1 hs.2).1 c hc
          omega
    have h2:GP (b::r)≤g:=SP h0 hs.2 fun x hx y hy hxy hno=>h x (W9 _ hx) y (W9 _ hy) hxy fun c hc hcc=>by
      rcases List.mem_cons.1 hc with rfl | hc
      · have:=hs.1 x hx; omega
      · exact hno c hc hcc
    unfold GP
    omega
theorem SQ {m e:Int}:∀ {l:List Int},l.Pairwise (· < ·)→m∈l→m<e→(∃ b∈l,e≤b)→(∀ c∈l,¬ (m<c∧c<e))→e-m≤GP l
  | [],_,hm,_,_,_=>by simp at hm
  | [a],hs,hm,he,⟨b,hb,heb⟩,_=>by
    simp at hm hb
    omega
  | a::b::r,hs,hm,he,⟨y,hy,hye⟩,hno=>by
    rw [List.pairwise_cons] at hs
    have hab:=hs.1 b (by simp)
    have hbe:=hno b (by simp)
    rcases List.mem_cons.1 hm with rfl | hm
    · unfold GP
      omega
    · have hm2:=hs.1 m hm
      have:=SQ hs.2 hm he (by
        rcases List.mem_cons.1 hy with rfl | hy
        · omega
        · exact⟨y,hy,hye⟩) fun c hc=>hno c (W9 _ hc)
      unfold GP
      omega
def Ev (r:Af) (a:An) (t:Ap) (s:Nat):List Int:=r.fr::r.to_::(((Dx r a t).map (NY (r.lA.length+1))).map fun p=>p[s]!).filter (UY r)
open Go Go.RowKit
structure Fz (r:Af) (t:Ap):Prop where
  tm:t.tm.length=r.lB.length
  tt:t.lE.length=r.lB.length
  lA:t.lA.length=r.lB.length+r.lC.length
  tms:∀ i<r.lB.length,(r.lB[i]!).tm.lo≤t.tm[i]!∧t.tm[i]!≤(r.lB[i]!).tm.hi
  tts:∀ i<r.lB.length,r.turn.lo≤t.lE[i]!∧t.lE[i]!≤r.turn.hi
  ll:∀ i<r.lB.length+r.lC.length,(t.lA[i]!).length=r.lA.length
  leg:∀ i<r.lB.length+r.lC.length,∀ (k:Nat)(x:Rg)(d:Int),r.lA[k]? = some x→(t.lA[i]!)[k]? = some d→x.lo≤d∧d≤x.hi
theorem Fz.sized {r:Af} {t:Ap} (h:Fz r t) (V:Ct r) {a:An} (A:DX r a):P2 r a t:=by
  refine⟨by have:=V.nb; omega,by have:=V.ns; omega,A.lD,A.lE,A.lC,h.tm,h.tt,h.lA,fun x hx=>?_,V.lI,fun x hx=>?_⟩
  · obtain⟨i,hi,rfl⟩:=List.mem_iff_getElem.1 hx
    have:=A.hold i (by rw [← A.lD]; exact hi)
    rwa [BO _ _ hi] at this
  · obtain⟨i,hi,rfl⟩:=List.mem_iff_getElem.1 hx
    have hib:i<r.lB.length:=by rw [← h.tm]; exact hi
    have:=h.tms i hib
    rw [BO _ _ hi,BO _ _ hib] at this
    have:=V.lB _ (W5 hib)
    omega
theorem SR {r:Af} {t:Ap} (h:Fz r t) {i:Nat} (hi:i<r.lB.length+r.lC.length):∀ (k:Nat)(d d':Int),(r.lA.map Rg.lo)[k]? = some d→(t.lA[i]!)[k]? = some d'→d≤d':=fun k d d' h1 h2=>by
  rw [WE] at h1
  obtain⟨x,hx,rfl⟩:=Option.map_eq_some_iff.1 h1
  exact(h.leg i hi k x d' hx h2).1
theorem SS {r:Af} {t:Ap} (h:Fz r t) {i:Nat} (hi:i<r.lB.length+r.lC.length):∀ (k:Nat)(d d':Int),(t.lA[i]!)[k]? = some d→(r.lA.map Rg.hi)[k]? = some d'→d≤d':=fun k d d' h1 h2=>by
  rw [WE] at h2
  obtain⟨x,hx,rfl⟩:=Option.map_eq_some_iff.1 h2
  exact(h.leg i hi k x d hx h1).2
theorem Fz.small {r:Af} {t:Ap} (h:Fz r t) (V:Ct r) {i:Nat} (hi:i<r.lB.length+r.lC.length):(t.lA[i]!).length≤20∧∀ d∈t.lA[i]!,0≤d∧d≤300:=by
  have hl:=h.ll i hi
  have:=V.nl
  refine⟨by omega,fun d hd=>?_⟩
  obtain⟨k,hk,rfl⟩:=List.mem_iff_getElem.1 hd
  have hkr:k<r.lA.length:=by omega
  have:=h.leg i hi k _ _ (Wy hkr) (Wy hk)
  have:=V.lA _ (W5 hkr)
  omega
theorem Fz.busT {r:Af} {t:Ap} (h:Fz r t) (V:Ct r) {a:An} (A:DX r a) {i:Nat} (hi:i<r.lB.length):Ga r (CI r a t i)∧TU (DY r a Rg.lo i) (CI r a t i)∧TU (CI r a t i) (DY r a Rg.hi i):=by
  have o:=Lp DQ.low V A i hi
  have h1:=h.tms i hi
  have h2:=h.tts i hi
  have h3:=h.ll i (by omega)
  have h4:=h.small V (i:=i) (by omega)
  have hT:=V.turn
  have hb:=V.lB _ (W5 hi)
  have hh:=A.hold i hi
  have hm:=Mi hh.1 hh.2 V.lI.1 V.lI.2
  rw [BO _ _ hi] at h1
  refine⟨⟨⟨by simp only [CI]; omega,by simp only [CI]; omega,h4.1,h4.2⟩,h3,o.t,by simp only [CI]; omega,by simp only [CI]; omega,o.s0,o.s1⟩,⟨rfl,rfl,?_,h2.1,(by rw [show(CI r a t i).2.lA=t.lA[i]! from rfl,h3]; simp [DY]),SR h (by omega)⟩,⟨rfl,rfl,?_,h2.2,(by rw [show(CI r a t i).2.lA=t.lA[i]! from rfl,h3]; simp [DY]),SS h (by omega)⟩⟩ <;>
  · simp only [DY,CI,BO _ _ hi]; omega
theorem Fz.spT {r:Af} {t:Ap} (h:Fz r t) (V:Ct r) {j:Nat} (hj:j<r.lC.length):Ga r (⟨(r.lC[j]!).stop,(r.lC[j]!).tm,-1⟩,⟨t.lA[r.lB.length+j]!,0⟩)∧TU (Hu r Rg.lo j) (⟨(r.lC[j]!).stop,(r.lC[j]!).tm,-1⟩,⟨t.lA[r.lB.length+j]!,0⟩)∧TU (⟨(r.lC[j]!).stop,(r.lC[j]!).tm,-1⟩,⟨t.lA[r.lB.length+j]!,0⟩) (Hu r Rg.hi j):=by
  have o:=NP DQ.low V j hj
  have h3:=h.ll (r.lB.length+j) (by omega)
  have h4:=h.small V (i:=r.lB.length+j) (by omega)
  exact⟨⟨⟨W7 _,by simp,h4.1,h4.2⟩,h3,o.t,o.tm0,o.tm1,o.s0,o.s1⟩,⟨rfl,rfl,W7 _,W7 _,(by simp only []; rw [h3]; simp [Hu]),SR h (by omega)⟩,⟨rfl,rfl,W7 _,W7 _,(by simp only []; rw [h3]; simp [Hu]),SS h (by omega)⟩⟩
theorem GV {r:Af} {a:An} {t:Ap} {p:Bj×A8}:p∈Dx r a t↔(∃ i<r.lB.length,p=CI r a t i)∨∃ j<r.lC.length,a.lC[j]! = true∧p=(⟨(r.lC[j]!).stop,(r.lC[j]!).tm,-1⟩,⟨t.lA[r.lB.length+j]!,0⟩):=by
  unfold Dx
  rw [List.mem_append,List.mem_map,List.mem_filterMap]
  constructor
  · rintro(⟨i,hi,rfl⟩ | ⟨j,hj,h⟩)
    · exact .inl ⟨i,List.mem_range.1 hi,rfl⟩
    · unfold Iv at h
      split at h
      · rename_i hs
        cases h
        exact .inr ⟨j,List.mem_range.1 hj,hs,rfl⟩
      · cases h
  · rintro(⟨i,hi,rfl⟩ | ⟨j,hj,hs,rfl⟩)
    · exact .inl ⟨i,List.mem_range.2 hi,rfl⟩
    · exact .inr ⟨j,List.mem_range.2 hj,by unfold Iv; rw [if_pos hs]⟩
theorem I3 {r:Af} {a:An} {s:Nat} {q:Rg}:q∈AI r a s↔(∃ i<r.lB.length,FA ((r.lA.length:Int)+1) (DY r a Rg.lo i) s=some q.lo∧FA ((r.lA.length:Int)+1) (DY r a Rg.hi i) s=some q.hi) ∨
    ∃ j<r.lC.length,a.lC[j]! = true∧FA ((r.lA.length:Int)+1) (Hu r Rg.lo j) s=some q.lo∧FA ((r.lA.length:Int)+1) (Hu r Rg.hi j) s=some q.hi:=by
  unfold AI CD
  rw [List.mem_filterMap]
  constructor
  · rintro⟨P,hP,h⟩
    rw [Gu] at h
    rcases List.mem_append.1 hP with hP | hP
    · obtain⟨i,hi,rfl⟩:=List.mem_map.1 hP
      exact .inl ⟨i,List.mem_range.1 hi,h⟩
    · obtain⟨j,hj,hc⟩:=List.mem_filterMap.1 hP
      split at hc
      · rename_i hs
        cases hc
        exact .inr ⟨j,List.mem_range.1 hj,hs,h⟩
      · cases hc
  · rintro(⟨i,hi,h⟩ | ⟨j,hj,hs,h⟩)
    · exact⟨_,List.mem_append_left _ (WD (List.mem_range.2 hi)),Gu.2 h⟩
    · exact⟨_,List.mem_append_right _ (List.mem_filterMap.2 ⟨j,List.mem_range.2 hj,by rw [if_pos hs]⟩),Gu.2 h⟩
theorem Fz.ok {r:Af} {t:Ap} (h:Fz r t) (V:Ct r) {a:An} (A:DX r a):∀ p∈Dx r a t,Ga r p:=fun p hp=>by
  rcases GV.1 hp with⟨i,hi,rfl⟩ | ⟨j,hj,_,rfl⟩
  · exact(h.busT V A hi).1
  · exact(h.spT V hj).1
theorem Fz.pass {r:Af} {t:Ap} (h:Fz r t) (V:Ct r) {a:An} (A:DX r a) {s:Nat} {q:Rg} (hq:q∈AI r a s):∃ p∈Dx r a t,∃ x,FA ((r.lA.length:Int)+1) p s=some x∧q.lo≤x∧x≤q.hi:=by
  rcases I3.1 hq with⟨i,hi,h1,h2⟩ | ⟨j,hj,hs,h1,h2⟩
  · obtain⟨o,l1,l2⟩:=h.busT V A hi
    have o1:=(Lp DQ.low V A i hi).t
    rcases l1.at o1 s with⟨e,_⟩ | ⟨u,x,e1,e2,e3⟩
    · rw [e] at h1; cases h1
    · rcases l2.at o.t s with⟨e,_⟩ | ⟨x',v,f1,f2,f3⟩
      · rw [e] at e2; cases e2
      · rw [e1] at h1; cases h1
        rw [f2] at h2; cases h2
        rw [f1] at e2; cases e2
        exact⟨_,GV.2 (.inl ⟨i,hi,rfl⟩),_,f1,e3,f3⟩
  · obtain⟨o,l1,l2⟩:=h.spT V hj
    have o1:=(NP DQ.low V j hj).t
    rcases l1.at o1 s with⟨e,_⟩ | ⟨u,x,e1,e2,e3⟩
    · rw [e] at h1; cases h1
    · rcases l2.at o.t s with⟨e,_⟩ | ⟨x',v,f1,f2,f3⟩
      · rw [e] at e2; cases e2
      · rw [e1] at h1; cases h1
        rw [f2] at h2; cases h2
        rw [f1] at e2; cases e2
        exact⟨_,GV.2 (.inr ⟨j,hj,hs,rfl⟩),_,f1,e3,f3⟩
theorem DR {r:Af} (V:Ct r) {a:An} {t:Ap} {s:Nat} (hs:s<r.lA.length+1) {y:Int}:y∈Ev r a t s↔y=r.fr∨y=r.to_∨(∃ p∈Dx r a t,FA ((r.lA.length:Int)+1) p s=some y)∧r.fr≤y∧y≤r.to_:=by
  have hl:=V.lG
  unfold Ev
  rw [List.mem_cons,List.mem_cons,List.mem_filter,List.mem_map]
  refine or_congr Iff.rfl (or_congr Iff.rfl ?_)
  have key:∀ p:Bj×A8,(NY (r.lA.length+1) p)[s]! = (FA ((r.lA.length:Int)+1) p s).getD (-1):=fun p=>by
    rw [BO _ _ (by unfold NY; simp; omega)]
    unfold NY
    rw [WF,WA]
    rfl
  constructor
  · rintro⟨⟨l,hl1,rfl⟩,hin⟩
    obtain⟨p,hp,rfl⟩:=List.mem_map.1 hl1
    unfold UY at hin
    have hin:=of_decide_eq_true hin
    rw [key] at hin ⊢
    cases he:FA ((r.lA.length:Int)+1) p s with
    | none=>rw [he] at hin; simp at hin; omega
    | some x=>rw [he] at hin; exact⟨⟨p,hp,he⟩,hin⟩
  · rintro⟨⟨p,hp,he⟩,hin⟩
    exact⟨⟨_,WD hp,by rw [key,he]; rfl⟩,by unfold UY; exact decide_eq_true hin⟩
theorem PC {r:Af} {t:Ap} (h:Fz r t) (V:Ct r) {a:An} (A:DX r a) {s:Nat} (hs:s<r.lA.length+1) {l:List Int} (hl:l.Pairwise (· < ·)) (hm:∀ y,y∈l↔y∈Ev r a t s):GP l≤WR r.fr r.to_ (AI r a s):=by
  have hlk:=V.lG
  have hin:∀ y∈l,r.fr≤y∧y≤r.to_:=fun y hy=>by
    rcases(DR V hs).1 ((hm y).1 hy) with rfl | rfl | ⟨_,h⟩
    · omega
    · omega
    · exact h
  refine SP (Mp _ _ _) hl fun x hx y hy hxy hno=>?_
  have hx':=hin x hx
  have hy':=hin y hy
  have h1:=Uf (l:=AI r a s) hx'.1 hx'.2
  have:y≤Ch x r.to_ (AI r a s):=Ea.2 ⟨hy'.2,fun q hq hqx=>by
    obtain⟨p,hp,z,hz,hz1,hz2⟩:=h.pass V A hq
    rcases Int.lt_or_le r.to_ z with hzt | hzt
    · omega
    · have hzm:z∈l:=(hm z).2 ((DR V hs).2 (.inr (.inr ⟨⟨p,hp,hz⟩,by omega,hzt⟩)))
      have:=hno z hzm
      omega⟩
  omega
def eE (b:Bool) (x:Rg):Int:=if b then x.hi else x.lo
def CJ (r:Af) (late:Nat→Bool):Ap:=⟨(List.range r.lB.length).map fun i=>eE (late i) (r.lB[i]!).tm,(List.range r.lB.length).map fun i=>eE (late i) r.turn,(List.range (r.lB.length+r.lC.length)).map fun i=>r.lA.map (eE (late i))⟩
theorem Uh (b:Bool):DQ (eE b):=by cases b; exact DQ.low; exact DQ.high
theorem ED {β:Type} [Inhabited β] (f:Nat→β) (n i:Nat) (h:i<n):((List.range n).map f)[i]! = f i:=by
  rw [BO _ _ (by simpa using h),WF,WA]
theorem Qv {r:Af} (V:Ct r) (late:Nat→Bool):Fz r (CJ r late):=by
  refine⟨by simp [CJ],by simp [CJ],by simp [CJ],fun i hi=>?_,fun i hi=>?_,fun i hi=>?_,fun i hi k x d hx hd=>?_⟩
  · unfold CJ
    simp only []
    rw [ED _ _ _ hi,BO _ _ hi]
    have:=V.lB _ (W5 hi)
    exact(Uh (late i)).le _ this.2.2.2.1
  · unfold CJ
    simp only []
    rw [ED _ _ _ hi]
    exact(Uh (late i)).le _ V.turn.2.1
  · unfold CJ
    simp only []
    rw [ED _ _ _ hi]
    simp
  · unfold CJ at hd
    simp only [] at hd
    rw [ED _ _ _ hi,WE,hx] at hd
    cases hd
    exact(Uh (late i)).le _ (V.lA x (WH hx)).2.1
theorem MR {r:Af} {a:An} {late:Nat→Bool} {i:Nat} (hi:i<r.lB.length):CI r a (CJ r late) i=DY r a (eE (late i)) i:=by
  unfold CI DY CJ
  simp only []
  rw [ED _ _ _ hi,ED _ _ _ hi,ED _ _ _ (by omega)]
theorem NZ {r:Af} {late:Nat→Bool} {j:Nat} (hj:j<r.lC.length):((⟨(r.lC[j]!).stop,(r.lC[j]!).tm,-1⟩,⟨(CJ r late).lA[r.lB.length+j]!,0⟩):Bj×A8)=Hu r (eE (late (r.lB.length+j))) j:=by
  unfold Hu CJ
  simp only []
  rw [ED _ _ _ (by omega)]
def GQ (r:Af) (a:An) (s:Nat) (m:Int) (i:Nat):Bool :=
  match FA ((r.lA.length:Int)+1) (if i<r.lB.length then DY r a Rg.lo i else Hu r Rg.lo (i-r.lB.length)) s with
  | some x=>decide (m<x)
  | none=>false
theorem T6 {r:Af} (V:Ct r) {a:An} (A:DX r a) {s:Nat} (hs:s<r.lA.length+1) {m:Int} (hm:m∈DC r.fr r.to_ (AI r a s)) {late:Nat→Bool} (hlate:∀ i<r.lB.length+r.lC.length,(r.lB.length≤i→a.lC[i-r.lB.length]! = true)→late i=GQ r a s m i) {l:List Int} (hl:l.Pairwise (· < ·)) (hml:∀ y,y∈l↔y∈Ev r a (CJ r late) s):Ch m r.to_ (AI r a s)-m≤GP l:=by
  have hlk:=V.lG
  have hmb:=Gt hlk.2.1 hm
  have hst:=I0 m r.to_ (AI r a s)
  rcases Int.lt_or_le m (Ch m r.to_ (AI r a s)) with hlt | hle
  · refine SQ hl ?_ hlt ⟨r.to_,(hml _).2 ((DR V hs).2 (.inr (.inl rfl))),hst⟩ fun c hc hcc=>?_
    · -- the KX is one of the truth
      refine(hml m).2 ((DR V hs).2 ?_)
      rcases List.mem_cons.1 hm with rfl | hm
      · exact .inl rfl
      · obtain⟨q,hq,rfl⟩:=List.mem_map.1 hm
        have hq:=(List.mem_filter.1 hq).1
        refine .inr (.inr ⟨?_,hmb⟩)
        rcases I3.1 hq with⟨i,hi,h1,h2⟩ | ⟨j,hj,hsp,h1,h2⟩
        · have e:late i=false:=by
            rw [hlate i (by omega) (fun h=>absurd h (by omega))]
            unfold GQ
            rw [if_pos hi,h1]
            exact decide_eq_false (by omega)
          exact⟨_,GV.2 (.inl ⟨i,hi,rfl⟩),by rw [MR hi,e]; exact h1⟩
        · have e:late (r.lB.length+j)=false:=by
            rw [hlate _ (by omega) (fun _=>by rw [show r.lB.length+j-r.lB.length=j by omega]; exact hsp)]
            unfold GQ
            rw [if_neg (by omega),show r.lB.length+j-r.lB.length=j by omega,h1]
            exact decide_eq_false (by omega)
          exact⟨_,GV.2 (.inr ⟨j,hj,hsp,rfl⟩),by rw [NZ hj,e]; exact h1⟩
    · rcases(DR V hs).1 ((hml c).1 hc) with rfl | rfl | ⟨⟨p,hp,hpc⟩,_⟩
      · omega
      · omega
      · rcases GV.1 hp with⟨i,hi,rfl⟩ | ⟨j,hj,hsp,rfl⟩
        · rw [MR hi] at hpc
          have hli:=hlate i (by omega) (fun h=>absurd h (by omega))
          unfold GQ at hli
          rw [if_pos hi] at hli
          cases hb:late i with
          | false =>
            rw [hb] at hpc hli
            have hpc:FA ((r.lA.length:Int)+1) (DY r a Rg.lo i) s=some c:=hpc
            rw [hpc] at hli
            have:=of_decide_eq_false hli.symm
            omega
          | true =>
            rw [hb] at hpc hli
            have hpc:FA ((r.lA.length:Int)+1) (DY r a Rg.hi i) s=some c:=hpc
            cases hlo:FA ((r.lA.length:Int)+1) (DY r a Rg.lo i) s with
            | none=>rw [hlo] at hli; cases hli
            | some x =>
              rw [hlo] at hli
              have hx:=of_decide_eq_true hli.symm
              have:=(Ea.1 (W7 (Ch m r.to_ (AI r a s)))).2 ⟨x,c⟩ (I3.2 (.inl ⟨i,hi,hlo,hpc⟩)) hx
              simp only [] at this
              omega
        · rw [NZ hj] at hpc
          have hli:=hlate (r.lB.length+j) (by omega) (fun _=>by rw [show r.lB.length+j-r.lB.length=j by omega]; exact hsp)
          unfold GQ at hli
          rw [if_neg (by omega),show r.lB.length+j-r.lB.length=j by omega] at hli
          cases hb:late (r.lB.length+j) with
          | false =>
            rw [hb] at hpc hli
            have hpc:FA ((r.lA.length:Int)+1) (Hu r Rg.lo j) s=some c:=hpc
            rw [hpc] at hli
            have:=of_decide_eq_false hli.symm
            omega
          | true =>
            rw [hb] at hpc hli
            have hpc:FA ((r.lA.length:Int)+1) (Hu r Rg.hi j) s=some c:=hpc
            cases hlo:FA ((r.lA.length:Int)+1) (Hu r Rg.lo j) s with
            | none=>rw [hlo] at hli; cases hli
            | some x =>
              rw [hlo] at hli
              have hx:=of_decide_eq_true hli.symm
              have:=(Ea.1 (W7 (Ch m r.to_ (AI r a s)))).2 ⟨x,c⟩ (I3.2 (.inr ⟨j,hj,hsp,hlo,hpc⟩)) hx
              simp only [] at this
              omega
  · have:=Gv l
    omega
open Go Go.RowKit
open Go Go.RowKit
open Go Go.RowKit
theorem PD:∀ {x y z:List Int},Pm x y=true→Pm y z=true→Pm x z=true
  | [],y,z,h,_=>by simp [Pm] at h
  | x::xs,[],z,h,_=>by simp [Pm] at h
  | x::xs,y::ys,[],_,h=>by simp [Pm] at h
  | x::xs,y::ys,z::zs,h1,h2=>by
    rw [Pm] at h1 h2 ⊢
    by_cases e:x=y
    · subst e
      rw [if_pos rfl] at h1
      by_cases e2:x=z
      · rw [if_pos e2] at h2 ⊢
        exact PD h1 h2
      · rw [if_neg e2] at h2 ⊢
        exact h2
    · rw [if_neg e] at h1
      have h3:=of_decide_eq_true h1
      by_cases e2:y=z
      · subst e2
        rw [if_neg e]; exact h1
      · rw [if_neg e2] at h2
        have h4:=of_decide_eq_true h2
        rw [if_neg (by omega)]
        exact decide_eq_true (by omega)
theorem Jx (a b:An):DZ a b=true↔Jr a<Jr b∨(Jr a=Jr b∧(KJ a<KJ b∨(KJ a=KJ b∧Pm (enc a) (enc b)=true))):=by
  unfold DZ
  by_cases e:Jr a=Jr b
  · rw [if_pos e]
    by_cases e2:KJ a=KJ b
    · rw [if_pos e2]
      constructor
      · exact fun h=>.inr ⟨e,.inr ⟨e2,h⟩⟩
      · rintro(h | ⟨_,h | ⟨_,h⟩⟩)
        · omega
        · omega
        · exact h
    · rw [if_neg e2,decide_eq_true_eq]
      constructor
      · exact fun h=>.inr ⟨e,.inl h⟩
      · rintro(h | ⟨_,h | ⟨h,_⟩⟩)
        · omega
        · exact h
        · omega
  · rw [if_neg e,decide_eq_true_eq]
    constructor
    · exact fun h=>.inl h
    · rintro(h | ⟨h,_⟩)
      · exact h
      · omega
theorem Pp {a b c:An} (h1:DZ a b=true) (h2:DZ b c=true):DZ a c=true:=by
  rw [Jx] at h1 h2 ⊢
  rcases h1 with h1 | ⟨e1,h1 | ⟨f1,h1⟩⟩ <;> rcases h2 with h2 | ⟨e2,h2 | ⟨f2,h2⟩⟩
  · exact .inl (by omega)
  · exact .inl (by omega)
  · exact .inl (by omega)
  · exact .inl (by omega)
  · exact .inr ⟨by omega,.inl (by omega)⟩
  · exact .inr ⟨by omega,.inl (by omega)⟩
  · exact .inl (by omega)
  · exact .inr ⟨by omega,.inl (by omega)⟩
  · exact .inr ⟨by omega,.inr ⟨by omega,PD h1 h2⟩⟩
def VF (r:Af) (l:List An) (i:Nat) (v w:Int):Prop :=
  ((i=0∧v=-1)∨((∀ k (h:k<l.length),k<i→v≤maxW r l[k])∧∃ k,∃ h:k<l.length,k<i∧v=maxW r l[k])) ∧
  ((w=-1∧∀ k (h:k<l.length),k<i→r.gap<maxW r l[k])∨∃ b,∃ h:b<l.length,b<i∧w=(b:Int)∧maxW r l[b]≤r.gap∧∀ k (h:k<l.length),k<i→maxW r l[k]≤r.gap→DZ l[k] l[b]=false)
theorem VF.step {r:Af} {l:List An} {i:Nat} {v w v' w':Int} (V:Ct r) (hi:i<l.length) (h:VF r l i v w)
    (hv:v' = if v<0∨maxW r l[i]<v then maxW r l[i] else v)
    (hw:(r.gap<maxW r l[i]∧w' = w)∨(maxW r l[i]≤r.gap∧((w<0∧w' = (i:Int))∨∃ b,∃ hb:b<l.length,w=(b:Int)∧((DZ l[i] l[b]=true∧w' = (i:Int))∨(DZ l[i] l[b]=false∧w' = w))))):VF r l (i+1) v' w':=by
  obtain⟨h1,h2⟩:=h
  constructor
  · right
    have hm:=(NX V l[i]).1
    rcases h1 with⟨h0,h1⟩ | ⟨h1,k0,hk0,hk1,hk2⟩
    · rw [if_pos (.inl (by omega))] at hv
      refine⟨fun k hk hk'=>?_,i,hi,by omega,hv⟩
      have:k=i:=by omega
      subst this
      omega
    · have hm2:=(NX V l[k0]).1
      by_cases c:v<0∨maxW r l[i]<v
      · rw [if_pos c] at hv
        refine⟨fun k hk hk'=>?_,i,hi,by omega,hv⟩
        by_cases e:k=i
        · subst e; omega
        · have:=h1 k hk (by omega); omega
      · rw [if_neg c] at hv
        refine⟨fun k hk hk'=>?_,k0,hk0,by omega,by omega⟩
        by_cases e:k=i
        · subst e; omega
        · have:=h1 k hk (by omega); omega
  · rcases hw with⟨hg,hw⟩ | ⟨hg,hw⟩
    · rcases h2 with⟨h0,h2⟩ | ⟨b,hb,hbi,hbw,hbk,hbb⟩
      · refine .inl ⟨by omega,fun k hk hk'=>?_⟩
        by_cases e:k=i
        · subst e; exact hg
        · exact h2 k hk (by omega)
      · refine .inr ⟨b,hb,by omega,by omega,hbk,fun k hk hk' hk2=>?_⟩
        by_cases e:k=i
        · subst e; omega
        · exact hbb k hk (by omega) hk2
    · rcases hw with⟨hw0,hw⟩ | ⟨b',hb',hbw',hw⟩
      · refine .inr ⟨i,hi,by omega,hw,hg,fun k hk hk' hk2=>?_⟩
        by_cases e:k=i
        · subst e
          cases hc:DZ l[k] l[k] with
          | false=>rfl
          | true =>
            rw [Jx,Ix] at hc
            rcases hc with hc | ⟨_,hc | ⟨_,hc⟩⟩
            · omega
            · omega
            · cases hc
        · rcases h2 with⟨h0,h2⟩ | ⟨b,hb,hbi,hbw,_⟩
          · have:=h2 k hk (by omega); omega
          · omega
      · rcases h2 with⟨h0,h2⟩ | ⟨b,hb,hbi,hbw,hbk,hbb⟩
        · omega
        · have:b=b':=by omega
          subst this
          rcases hw with⟨hc,hw⟩ | ⟨hc,hw⟩
          · refine .inr ⟨i,hi,by omega,hw,hg,fun k hk hk' hk2=>?_⟩
            cases hk3:DZ l[k] l[i] with
            | false=>rfl
            | true =>
              by_cases e:k=i
              · subst e
                rw [Jx,Ix] at hk3
                rcases hk3 with hk3 | ⟨_,hk3 | ⟨_,hk3⟩⟩
                · omega
                · omega
                · cases hk3
              · have:=hbb k hk (by omega) hk2
                rw [Pp hk3 hc] at this
                exact this
          · refine .inr ⟨b,hb,by omega,by omega,hbk,fun k hk hk' hk2=>?_⟩
            by_cases e:k=i
            · subst e; exact hc
            · exact hbb k hk (by omega) hk2
open Go Go.RowKit
def Ls (r:Af) (sp:DO Int Rg) (m:Int):Int:=IntKind.i64.wrap (A3 m r.to_ sp.l-m)
theorem HI:∀ (n:Nat)(r:Af)(sp:DO Int Rg)(s:List Int×List (Int×Rg))(i:Nat)(b x:Int)(K:(List Int×Int×Int)→Prop),(s.1.length-i)+sp.l.length+4≤n→s.1.length<2000000000→i≤s.1.length →
    (∀ b',(b' = b∧(s.1.drop i).foldl (fun b m=>max b (Ls r sp m)) x=x)∨(b'∈s.1∧Ls r sp b' = (s.1.drop i).foldl (fun b m=>max b (Ls r sp m)) x)→K (s.1,b',(s.1.drop i).foldl (fun b m=>max b (Ls r sp m)) x))→AB n r sp s s.1 (i:Int) b x K
  | 0,_,_,_,_,_,_,_,h,_,_,_=>by omega
  | n+1,r,sp,s,i,b,x,K,h,hb,hi,hK=>by
    rw [AB]
    by_cases hx:i<s.1.length
    · rw [show decide ((i:Int)<((s.1.length:Nat):Int))=true by simpa using hx]
      have hw:IntKind.i64.wrap ((i:Int)+1)=((i+1:Nat):Int):=by
        rw [show((i+1:Nat):Int)=(i:Int)+1 by omega]
        simp only [IntKind.wrap]
        simp [IntKind.bits,IntKind.signed]; omega
      refine⟨s.1[i],by simp [Cm,hx],C4 _ _ _ _ _ (by omega) ?_⟩
      rw [List.drop_eq_getElem_cons hx] at hK
      simp only [WS] at hK
      by_cases hg:Ls r sp s.1[i]>x
      · have hg':IntKind.i64.wrap (A3 s.1[i] r.to_ sp.l-s.1[i])>x:=hg
        simp only [hg',decide_true,cond_true,hw]
        rw [show max x (Ls r sp s.1[i])=Ls r sp s.1[i] by omega] at hK
        refine HI _ _ _ _ _ _ _ _ (by omega) hb (by omega) fun b' hb'=>hK b' ?_
        rcases hb' with⟨rfl,hf⟩ | hb'
        · exact .inr ⟨W5 hx,hf.symm⟩
        · exact .inr hb'
      · have hg' : ¬ IntKind.i64.wrap (A3 s.1[i] r.to_ sp.l-s.1[i])>x:=hg
        simp only [hg',decide_false,cond_false,hw]
        rw [show max x (Ls r sp s.1[i])=x by omega] at hK
        exact HI _ _ _ _ _ _ _ _ (by omega) hb (by omega) hK
    · obtain rfl:i=s.1.length:=by omega
      simp only [Int.lt_irrefl,decide_false,cond_false]
      have:=hK b (.inl ⟨rfl,by simp⟩)
      simpa using this
theorem Sq {n:Nat} {r:Af} {sp:DO Int Rg} {Q:KP→Prop} (hn:2*sp.l.length+20≤n) (hs:sp.l.length<1000000)
    (H:∀ b F,F=(B2 r sp.l).foldl (fun b m=>max b (Ls r sp m)) 0→(b=r.fr∧F=0)∨(b∈B2 r sp.l∧Ls r sp b=F)→Q ⟨b,F⟩):CS n r sp Q:=by
  refine C5 _ _ _ _ _ (by omega) (by simp; omega) fun ms hm=>?_
  have hl:=hm.length_eq
  have hf:((sp.l.filter fun p=>decide (r.fr≤p.2.lo) && decide (p.2.lo≤r.to_)).map fun p=>p.2.lo).length≤sp.l.length:=by rw [WG]; exact List.length_filter_le _ _
  simp only [WU,WT,List.length_nil] at hl
  have hfold:ms.foldl (fun b m=>max b (Ls r sp m)) 0=(B2 r sp.l).foldl (fun b m=>max b (Ls r sp m)) 0:=hm.foldl_eq' (fun p _ q _ e=>by omega) _
  refine HI n r sp (ms,[]) 0 _ _ _ (by simp only; omega) (by simp only; omega) (by simp) fun b' hb'=>?_
  simp only [W3] at hb' ⊢
  rw [hfold] at hb' ⊢
  refine H b' _ rfl ?_
  rcases hb' with⟨h1,h2⟩ | ⟨h1,h2⟩
  · exact .inl ⟨h1,h2⟩
  · exact .inr ⟨hm.mem_iff.1 h1,h2⟩
open Go Go.RowKit
theorem Oa (st:Int) (n:Nat) (k:Int):∀ (l:List ((Bj×A8)×(Bj×A8)))(i q:Nat),Ca (AG st n k i l) ((i+q:Nat):Int)=(l[q]?).bind fun p=>CM st n p k
  | [],i,q=>rfl
  | p::r,i,0=>by
    unfold AG
    have hno:∀ (l:List ((Bj×A8)×(Bj×A8)))(j:Nat),i<j→Ca (AG st n k j l) (i:Int)=none:=by
      intro l
      induction l with
      | nil=>intro j _; rfl
      | cons p r ih =>
        intro j hj
        unfold AG
        cases CM st n p k with
        | none=>exact ih (j+1) (by omega)
        | some x =>
          simp only [Ca]
          rw [if_neg (by omega)]
          exact ih (j+1) (by omega)
    cases h:CM st n p k with
    | none=>simp only [Nat.add_zero,List.getElem?_cons_zero,Wz,h]; exact hno r (i+1) (by omega)
    | some x=>simp [Ca,h]
  | p::r,i,q+1=>by
    have IH:=Oa st n k r (i+1) q
    rw [show i+1+q=i+(q+1) by omega] at IH
    unfold AG
    cases h:CM st n p k with
    | none=>simpa using IH
    | some x =>
      simp only [Ca,List.getElem?_cons_succ]
      rw [if_neg (by omega)]
      exact IH
theorem Lt {β:Type} (c:Nat→Bool) (g:Nat→β):∀ (l:List Nat)(q j:Nat),l[q]? = some j→c j=true→(l.filterMap fun j=>if c j then some (g j) else none)[((l.take q).filter c).length]? = some (g j)
  | [],q,j,h,_=>by simp at h
  | x::l,0,j,h,hc=>by
    simp at h
    subst h
    simp [hc]
  | x::l,q+1,j,h,hc=>by
    have IH:=Lt c g l q j (by simpa using h) hc
    rw [List.take_succ_cons,List.filter_cons,WB]
    cases hx:c x with
    | true=>simpa using IH
    | false=>simpa using IH
def E4 (r:Af) (a:An) (i:Nat):Nat:=if i≤r.lB.length then i else r.lB.length+((List.range (i-r.lB.length)).filter fun j=>a.lC[j]!).length
theorem T7 {r:Af} {a:An} {i:Nat} (h:i<r.lB.length):E4 r a (i+1)=E4 r a i+1:=by
  unfold E4; rw [if_pos (by omega),if_pos (by omega)]
theorem Rn {r:Af} {a:An} {i:Nat} (h:r.lB.length≤i):E4 r a (i+1)=E4 r a i+(if a.lC[i-r.lB.length]! = true then 1 else 0):=by
  unfold E4
  rw [if_neg (by omega),show i+1-r.lB.length=(i-r.lB.length)+1 by omega,List.range_succ,List.filter_append,WU]
  have e:(List.filter (fun j=>a.lC[j]!) [i-r.lB.length]).length=if a.lC[i-r.lB.length]! = true then 1 else 0:=by
    rw [List.filter_cons]; split <;> rfl
  rw [e]
  by_cases h2:i≤r.lB.length
  · rw [if_pos h2,show i-r.lB.length=0 by omega]
    simp; omega
  · rw [if_neg h2]; omega
theorem T8 {r:Af} {a:An} {i:Nat} (h:i<r.lB.length):(CD r a)[E4 r a i]? = some (DY r a Rg.lo i,DY r a Rg.hi i):=by
  unfold E4 CD
  rw [if_pos (by omega),List.getElem?_append_left (by simpa using h),WE,WK h]; rfl
theorem Ro {r:Af} {a:An} {i:Nat} (h:r.lB.length≤i) (h2:i<r.lB.length+r.lC.length) (hs:a.lC[i-r.lB.length]! = true):(CD r a)[E4 r a i]? = some (Hu r Rg.lo (i-r.lB.length),Hu r Rg.hi (i-r.lB.length)):=by
  have e:E4 r a i=r.lB.length+((List.range (i-r.lB.length)).filter fun j=>a.lC[j]!).length:=by
    unfold E4
    split
    · rw [show i-r.lB.length=0 by omega]; simp; omega
    · rfl
  unfold CD
  rw [e,List.getElem?_append_right (by simp),WG,WV,Nat.add_sub_cancel_left]
  have:=Lt (fun j=>a.lC[j]!) (fun j=>(Hu r Rg.lo j,Hu r Rg.hi j)) (List.range r.lC.length) (i-r.lB.length) (i-r.lB.length) (WK (by omega)) hs
  rw [List.take_range,Nat.min_eq_left (by omega)] at this
  exact this
def FT (r:Af) (a:An) (s:Nat) (m:Int) (i:Nat):Bool:=(decide (i<r.lB.length) || a.lC[i-r.lB.length]!) && GQ r a s m i
theorem T9 {r:Af} {a:An} (V:Ct r) (A:DX r a) (s:Nat) (m:Int) {i:Nat} (hi:i<r.lB.length+r.lC.length) (hu:r.lB.length≤i→a.lC[i-r.lB.length]! = true) :
    ((Fb (AG ((r.lA.length:Int)+1) 40 (s:Int) 0 (CD r a)) ((E4 r a i:Nat):Int) (Rg.mk 0 0)).2 && decide ((Fb (AG ((r.lA.length:Int)+1) 40 (s:Int) 0 (CD r a)) ((E4 r a i:Nat):Int) (Rg.mk 0 0)).1.lo>m))=FT r a s m i:=by
  have h0:=Oa ((r.lA.length:Int)+1) 40 (s:Int) (CD r a) 0 (E4 r a i)
  rw [Xa] at h0
  have key:∀ p,(CD r a)[E4 r a i]? = some p→p.1=(if i<r.lB.length then DY r a Rg.lo i else Hu r Rg.lo (i-r.lB.length))→((Fb (AG ((r.lA.length:Int)+1) 40 (s:Int) 0 (CD r a)) ((E4 r a i:Nat):Int) (Rg.mk 0 0)).2 && decide ((Fb (AG ((r.lA.length:Int)+1) 40 (s:Int) 0 (CD r a)) ((E4 r a i:Nat):Int) (Rg.mk 0 0)).1.lo>m))=GQ r a s m i:=by
    intro p hp he
    rw [hp,Wz] at h0
    unfold GQ Fb
    rw [← he,h0]
    rcases Ml V (WH hp) 40 (s:Int) A with⟨h1,h2⟩ | ⟨x,y,h1,h2,_⟩
    · have e1:CM ((r.lA.length:Int)+1) 40 p (s:Int)=none:=by unfold CM; rw [h1,h2]
      have e2:FA ((r.lA.length:Int)+1) p.1 (s:Int)=none:=h1
      rw [e1,e2]; rfl
    · have e1:CM ((r.lA.length:Int)+1) 40 p (s:Int)=some ⟨x,y⟩:=by unfold CM; rw [h1,h2]
      have e2:FA ((r.lA.length:Int)+1) p.1 (s:Int)=some x:=h1
      rw [e1,e2]; rfl
  unfold FT
  by_cases hb:i<r.lB.length
  · rw [key _ (T8 hb) (by rw [if_pos hb]),decide_eq_true hb]; rfl
  · rw [key _ (Ro (by omega) hi (hu (by omega))) (by rw [if_neg hb]),hu (by omega),Bool.or_true,WN]
def DS (r:Af) (late:Nat→Bool) (i:Nat):Ap:=CJ r fun k=>decide (k<i) && late k
theorem Mq {β:Type} (f:Nat→β) (N i:Nat) (v:β):((List.range N).map f).set i v=(List.range N).map fun k=>if k=i then v else f k:=by
  apply List.ext_getElem
  · simp
  · intro k h1 h2
    rw [List.getElem_set]
    simp only [WF,WA]
    by_cases h:i=k
    · rw [if_pos h,if_pos h.symm]
    · rw [if_neg h,if_neg (fun e=>h e.symm)]
theorem Sr (r:Af) (late:Nat→Bool):DS r late 0=CC r Rg.lo:=by
  unfold DS CJ CC
  have e:∀ k:Nat,(decide (k<0) && late k)=false:=fun k=>by simp
  simp only [e,eE,Bool.false_eq_true,if_false]
  congr 1
  · apply List.ext_getElem
    · simp
    · intro k h1 h2
      have hk:k<r.lB.length:=by simpa using h1
      simp only [WF,WA,BO _ _ hk]
  · apply List.ext_getElem
    · simp
    · intro k h1 h2
      simp only [WF]
  · apply List.ext_getElem
    · simp
    · intro k h1 h2
      simp only [WF,List.getElem_replicate]; rfl
theorem KN {r:Af} {late:Nat→Bool} {i:Nat} (h:late i=false):DS r late (i+1)=DS r late i:=by
  unfold DS
  congr 1
  funext k
  by_cases hk:k=i
  · subst hk; simp [h]
  · have:decide (k<i+1)=decide (k<i):=by rw [Bool.eq_iff_iff]; simp; omega
    rw [this]
theorem Ss {late:Nat→Bool} {i:Nat} (h:late i=true) (k:Nat):(decide (k<i+1) && late k)=(if k=i then true else(decide (k<i) && late k)):=by
  by_cases hk:k=i
  · subst hk; simp [h]
  · rw [if_neg hk]
    have:decide (k<i+1)=decide (k<i):=by rw [Bool.eq_iff_iff]; simp; omega
    rw [this]
theorem Ob {r:Af} {late:Nat→Bool} {i:Nat} (h:late i=true):(DS r late (i+1)).lA=(DS r late i).lA.set i (r.lA.map Rg.hi):=by
  show(List.range _).map _=((List.range _).map _).set i _
  rw [Mq]
  congr 1
  funext k
  simp only [Ss h]
  by_cases hk:k=i
  · rw [if_pos hk,if_pos hk]; rfl
  · rw [if_neg hk,if_neg hk]
theorem Ui {r:Af} {late:Nat→Bool} {i:Nat} (h:late i=true):(DS r late (i+1)).tm=(DS r late i).tm.set i (r.lB[i]!).tm.hi∧(DS r late (i+1)).lE=(DS r late i).lE.set i r.turn.hi:=by
  constructor
  · show(List.range _).map _=((List.range _).map _).set i _
    rw [Mq]
    congr 1
    funext k
    simp only [Ss h]
    by_cases hk:k=i
    · subst hk; rw [if_pos rfl,if_pos rfl]; rfl
    · rw [if_neg hk,if_neg hk]
  · show(List.range _).map _=((List.range _).map _).set i _
    rw [Mq]
    congr 1
    funext k
    simp only [Ss h]
    by_cases hk:k=i
    · rw [if_pos hk,if_pos hk]; rfl
    · rw [if_neg hk,if_neg hk]
theorem TA {r:Af} {late:Nat→Bool} {i:Nat} (hi:r.lB.length≤i):(DS r late (i+1)).tm=(DS r late i).tm∧(DS r late (i+1)).lE=(DS r late i).lE:=by
  have e:∀ k∈List.range r.lB.length,(decide (k<i+1) && late k)=(decide (k<i) && late k):=fun k hk=>by
    have:=List.mem_range.1 hk
    rw [show decide (k<i+1)=decide (k<i) by rw [Bool.eq_iff_iff]; simp; omega]
  constructor
  · exact WI fun k hk=>by simp only [e k hk]
  · exact WI fun k hk=>by simp only [e k hk]
theorem Oc {r:Af} {a:An} (V:Ct r) (A:DX r a) (s:Nat) (x41:KP) (K:(List Int×List Int×List (List Int))→Prop)
    (hK:K ((DS r (FT r a s x41.fr) (r.lB.length+r.lC.length)).tm,(DS r (FT r a s x41.fr) (r.lB.length+r.lC.length)).lE,(DS r (FT r a s x41.fr) (r.lB.length+r.lC.length)).lA)) :
    ∀ (n i:Nat),r.lB.length+r.lC.length<n+i→i≤r.lB.length+r.lC.length →
    Bv n r a (DO.mk (AG ((r.lA.length:Int)+1) 40 (s:Int) 0 (CD r a))) x41 (CC r Rg.hi) (DS r (FT r a s x41.fr) i).tm (DS r (FT r a s x41.fr) i).lE (DS r (FT r a s x41.fr) i).lA (i:Int) ((E4 r a i:Nat):Int) K
  | 0,i,h,hi=>by omega
  | n+1,i,h,hi=>by
    have hnb:=V.nb
    have hns:=V.ns
    have hsl:=A.lC
    rw [Bv,G9 (x:=((r.lB.length:Nat):Int)+((r.lC.length:Nat):Int)) (by omega) (by omega)]
    by_cases hx:i<r.lB.length+r.lC.length
    · rw [show decide ((i:Int)<((r.lB.length:Nat):Int)+((r.lC.length:Nat):Int))=true from decide_eq_true (by omega),cond_true]
      have IH:=Oc V A s x41 K hK n (i+1) (by omega) (by omega)
      have hnum:E4 r a i≤i:=by
        unfold E4
        split
        · omega
        · have:=List.length_filter_le (fun j=>a.lC[j]!) (List.range (i-r.lB.length))
          rw [WV] at this; omega
      have hw1:IntKind.i64.wrap (((E4 r a i:Nat):Int)+1)=((E4 r a i+1:Nat):Int):=Dc _ (by omega)
      have hl:=T9 V A s x41.fr hx
      have hml:(DS r (FT r a s x41.fr) i).lA.length=r.lB.length+r.lC.length:=by show((List.range _).map _).length=_; simp
      have hmt:(DS r (FT r a s x41.fr) i).tm.length=r.lB.length:=by show((List.range _).map _).length=_; simp
      have hmu:(DS r (FT r a s x41.fr) i).lE.length=r.lB.length:=by show((List.range _).map _).length=_; simp
      have hel:Cm (CC r Rg.hi).lA (i:Int)=some (r.lA.map Rg.hi):=by
        rw [Qp]
        show(List.replicate _ _)[i]? = _
        rw [WX,if_pos hx]
      rw [Dc i (by omega)]
      have o2:∀ (z:Rg×Bool),(bif z.2 then some (decide (z.1.lo>x41.fr)) else some false:Option Bool)=some (z.2 && decide (z.1.lo>x41.fr)):=fun z=>by cases z.2 <;> rfl
      by_cases hb:i<r.lB.length
      · have hnx:E4 r a (i+1)=E4 r a i+1:=T7 hb
        have hl:=hl fun h=>absurd h (by omega)
        rw [show decide ((i:Int)<((r.lB.length:Nat):Int))=true from decide_eq_true (by omega)]
        refine⟨false,rfl,?_⟩
        simp only [cond_false,cond_true,hw1]
        refine⟨_,rfl,_,o2 _,?_⟩
        rw [hl]
        rw [hnx] at IH
        cases hlu:FT r a s x41.fr i with
        | true =>
          rw [cond_true]
          obtain⟨q1,q2⟩:=Ui hlu
          rw [Ob hlu,q1,q2] at IH
          have e1:Cm (CC r Rg.hi).tm (i:Int)=some (r.lB[i]!).tm.hi:=by
            rw [Qp]
            show(r.lB.map fun b=>b.tm.hi)[i]? = _
            rw [WE,Wy hb,BO _ _ hb]; rfl
          have e2:Cm (CC r Rg.hi).lE (i:Int)=some r.turn.hi:=by
            rw [Qp]
            show(r.lB.map fun _=>r.turn.hi)[i]? = _
            rw [WE,Wy hb]; rfl
          exact⟨_,hel,_,AH _ _ (by omega),_,NE _ _ _ (by omega),_,e1,_,e2,_,AH _ _ (by omega),_,NE _ _ _ (by omega),_,AH _ _ (by omega),_,NE _ _ _ (by omega),IH⟩
        | false =>
          rw [KN hlu] at IH
          rw [cond_false]; exact IH
      · have hq:i-r.lB.length<a.lC.length:=by omega
        have hw2:IntKind.i64.wrap ((i:Int)-((r.lB.length:Nat):Int))=((i-r.lB.length:Nat):Int):=by rw [G9 (by omega) (by omega)]; omega
        have hnx:=Rn (a:=a) (show r.lB.length≤i by omega)
        rw [show decide ((i:Int)<((r.lB.length:Nat):Int))=false from decide_eq_false (by omega)]
        refine⟨!a.lC[i-r.lB.length]!,by rw [Bool.not_false,cond_true,hw2,AH _ _ hq,BO _ _ hq]; rfl,?_⟩
        simp only [cond_false,hw1]
        obtain⟨q1,q2⟩:=TA (r:=r) (late:=FT r a s x41.fr) (show r.lB.length≤i by omega)
        rw [q1,q2] at IH
        cases hsp:a.lC[i-r.lB.length]! with
        | false =>
          have hlu:FT r a s x41.fr i=false:=by unfold FT; rw [decide_eq_false hb,hsp]; rfl
          rw [hsp] at hnx
          simp only [Bool.false_eq_true,if_false,Nat.add_zero] at hnx
          rw [KN hlu,hnx] at IH
          exact IH
        | true =>
          rw [hsp] at hnx
          simp only [if_true] at hnx
          have hl:=hl fun _=>hsp
          simp only [WM,cond_false]
          refine⟨_,rfl,_,o2 _,?_⟩
          rw [hl]
          rw [hnx] at IH
          cases hlu:FT r a s x41.fr i with
          | true =>
            rw [cond_true]
            rw [Ob hlu] at IH
            exact⟨_,hel,_,AH _ _ (by omega),_,NE _ _ _ (by omega),IH⟩
          | false =>
            rw [KN hlu] at IH
            rw [cond_false]; exact IH
    · obtain rfl:i=r.lB.length+r.lC.length:=by omega
      rw [show decide (((r.lB.length+r.lC.length:Nat):Int)<((r.lB.length:Nat):Int)+((r.lC.length:Nat):Int))=false from decide_eq_false (by omega),cond_false]
      exact hK
theorem TB (r:Af) (late:Nat→Bool):DS r late (r.lB.length+r.lC.length)=CJ r late:=by
  unfold DS CJ
  have e:∀ N≤r.lB.length+r.lC.length,∀ k∈List.range N,(decide (k<r.lB.length+r.lC.length) && late k)=late k:=fun N hN k hk=>by
    have:=List.mem_range.1 hk
    rw [decide_eq_true (by omega),WN]
  congr 1
  · exact WI fun k hk=>by simp only [e _ (by omega) k hk]
  · exact WI fun k hk=>by simp only [e _ (by omega) k hk]
  · exact WI fun k hk=>by simp only [e _ (by omega) k hk]
theorem Uj {n:Nat} {r:Af} {a:An} (hF:CX r=0) (hA:EB r a=true) (hn:120≤n) (hn2:n≤900) (s:Nat) (hs:s<r.lA.length+1) (Q:Ap×Int→Prop)
    (H:∀ m late,((m=r.fr∧WR r.fr r.to_ (AI r a s)=0)∨(m∈DC r.fr r.to_ (AI r a s)∧Ch m r.to_ (AI r a s)-m=WR r.fr r.to_ (AI r a s))) →
      (∀ i<r.lB.length+r.lC.length,(r.lB.length≤i→a.lC[i-r.lB.length]! = true)→late i=GQ r a s m i)→Q (CJ r late,0)):Ey n r a (s:Int) Q:=by
  have V:=Ha hF
  have A:=GU hA
  have hnl:=V.nl
  have hnb:=V.nb
  have hns:=V.ns
  have hlk:=V.lG
  unfold Ey
  refine⟨_,Qt n r a (by omega) (by omega) (by omega) (by omega),?_⟩
  simp only [hF,ne_eq,not_true_eq_false,if_false,hA,if_true,bne_self_eq_false,cond_false]
  have hst:Bp n r (s:Int)=some true:=by
    unfold Bp
    rw [show AT n r=some ((r.lA.length:Int)+1) from by unfold AT; rw [G9 (by omega) (by omega)],Wz,Gc,G9 (by omega) (by omega)]
    simp; omega
  refine⟨_,hst,?_⟩
  simp only [WM,cond_false]
  refine⟨_,NQ n r a V A (by omega) (by omega),?_⟩
  refine⟨DO.mk (AG ((r.lA.length:Int)+1) 40 (s:Int) 0 (CD r a)),by rw [Qp,WE,WK hs]; rfl,?_⟩
  have hsnd:(AG ((r.lA.length:Int)+1) 40 (s:Int) 0 (CD r a)).map Prod.snd=AI r a s:=CA ..
  have hlen:(AG ((r.lA.length:Int)+1) 40 (s:Int) 0 (CD r a)).length≤r.lB.length+r.lC.length:=by
    have h1:(AI r a s).length≤(CD r a).length:=WW ..
    have h2:(CD r a).length≤r.lB.length+r.lC.length:=by
      unfold CD
      rw [WU,WG,WV]
      have:=WW (fun j=>if a.lC[j]! then some (Hu r Rg.lo j,Hu r Rg.hi j) else none) (List.range r.lC.length)
      rw [WV] at this; omega
    rw [← hsnd,WG] at h1; omega
  have hmk:B2 r (AG ((r.lA.length:Int)+1) 40 (s:Int) 0 (CD r a))=DC r.fr r.to_ (AI r a s):=by
    unfold B2 DC
    rw [← hsnd,List.filter_map,List.map_map]; rfl
  have hgap:∀ m∈DC r.fr r.to_ (AI r a s),Ls r (DO.mk (AG ((r.lA.length:Int)+1) 40 (s:Int) 0 (CD r a))) m=Ch m r.to_ (AI r a s)-m:=fun m hm=>by
    have hmb:=Gt hlk.2.1 hm
    have hsb:=Hy m (AI r a s) r.to_ (Mm V A s) hmb.2
    unfold Ls
    rw [KH,hsnd,G9 (by omega) (by omega)]
  refine Sq (by simp only; omega) (by simp only; omega) fun b F hFe hbF=>?_
  have hFW:F=WR r.fr r.to_ (AI r a s):=by
    rw [hFe,hmk]
    exact Jp _ _ fun c x hx=>by rw [hgap x hx]
  refine⟨_,N3 n r Rg.lo (fun y0=>Al n y0) (fun x=>rfl) (by omega) (by omega) (by omega) (by omega),_,N3 n r Rg.hi (fun y0=>Aw n y0) (fun x=>rfl) (by omega) (by omega) (by omega) (by omega),?_⟩
  have hloop:=Oc V A s ⟨b,F⟩ (fun s_209=>Q ((Ap.mk s_209.1 s_209.2.1 s_209.2.2),0)) (by
    rw [TB]
    refine H b (FT r a s b) ?_ fun i hi hu=>?_
    · rcases hbF with⟨h1,h2⟩ | ⟨h1,h2⟩
      · exact .inl ⟨h1,hFW.symm.trans h2⟩
      · rw [hmk] at h1
        exact .inr ⟨h1,by rw [← hgap b h1,h2,hFW]⟩
    · unfold FT
      by_cases hb:i<r.lB.length
      · rw [decide_eq_true hb]; rfl
      · rw [hu (by omega),Bool.or_true,WN]) n 0 (by omega) (by omega)
  rw [Sr] at hloop
  exact hloop
open Go Go.RowKit
theorem Od (t:Ap) (hb:t.lA.length≤20) (hl:∀ x∈t.lA,x.length≤20):∀ (n i:Nat)(acc:List (List Int)),t.lA.length<n+i→i≤t.lA.length→acc.length=i→EE n t acc (i:Int)=some (acc++t.lA.drop i)
  | 0,i,acc,h,hi,_=>by omega
  | n+1,i,acc,h,hi,ha=>by
    rw [EE,BC]
    by_cases hx:i<t.lA.length
    · have h20:=hl _ (W5 hx)
      simp only [hx,decide_true,cond_true,AH _ _ hx,Wz,CZ n _ (show(t.lA[i]).length≤1000 by omega)]
      rw [DE _ _ (by simp; omega)]
      simp only [Wz]
      rw [Dc i (by omega),Od t hb hl n (i+1) _ (by omega) (by omega) (by simp; omega),AR hx,W0]
      rfl
    · have:i=t.lA.length:=by omega
      simp [this]
theorem Rp (n:Nat) (t:Ap) (hn:30≤n) (h1:t.tm.length≤20) (h2:t.lE.length≤20) (hb:t.lA.length≤20) (hl:∀ x∈t.lA,x.length≤20):HV n t=some t:=by
  unfold HV
  have:=Od t hb hl n 0 [] (by omega) (by omega) rfl
  rw [show((0:Nat):Int)=0 from rfl] at this
  rw [CZ n _ (by omega),CZ n _ (by omega),this]; rfl
open Go Go.RowKit
theorem Rq {zs:List Int} {y:Int}:y∈Lib.compact zs↔y∈zs:=by
  unfold Lib.compact Lib.compactUpTo
  rw [List.mem_map]
  constructor
  · rintro⟨j,hj,rfl⟩
    rw [List.mem_filter,WJ] at hj
    have:zs.toArray[j]! = zs[j]:=getElem!_pos zs.toArray j (by simpa using hj.1)
    rw [this]
    exact W5 _
  · intro hy
    obtain⟨j,hj,he⟩:=List.mem_iff_getElem.1 hy
    -- the first place
    have key:∀ k,(∃ j,∃ h:j<zs.length,zs[j]=y∧j<k)→∃ j,∃ h:j<zs.length,zs[j]=y∧Lib.keeps zs.toArray j=true:=by
      intro k
      induction k with
      | zero=>rintro⟨_,_,_,h⟩; omega
      | succ k ih =>
        rintro⟨j,hj,he,hjk⟩
        by_cases h0:Lib.keeps zs.toArray j=true
        · exact⟨j,hj,he,h0⟩
        · unfold Lib.keeps at h0
          simp only [decide_eq_true_eq,not_or,ne_eq,Decidable.not_not] at h0
          obtain⟨h1,h2⟩:=h0
          have e1:zs.toArray[j]! = zs[j]:=getElem!_pos zs.toArray j (by simpa using hj)
          have e2:zs.toArray[j-1]! = zs[j-1]:=getElem!_pos zs.toArray (j-1) (by simp; omega)
          rw [e1,e2] at h2
          exact ih ⟨j-1,by omega,by rw [← h2]; exact he,by omega⟩
    obtain⟨j,hj,he,hk⟩:=key (j+1) ⟨j,hj,he,by omega⟩
    exact⟨j,List.mem_filter.2 ⟨List.mem_range.2 hj,hk⟩,by rw [← he]; exact getElem!_pos zs.toArray j (by simpa using hj)⟩
theorem Oe {zs:List Int} (hs:zs.Pairwise (·≤·)):(Lib.compact zs).Pairwise (· < ·):=by
  unfold Lib.compact Lib.compactUpTo
  rw [List.pairwise_map]
  have h1:((List.range zs.length).filter (Lib.keeps zs.toArray)).Pairwise (· < ·):=List.Pairwise.sublist List.filter_sublist List.pairwise_lt_range
  refine h1.imp_of_mem fun {i j} hi hj hij=>?_
  rw [List.mem_filter,WJ] at hi hj
  have e1:zs.toArray[i]! = zs[i]:=getElem!_pos zs.toArray i (by simpa using hi.1)
  have e2:zs.toArray[j]! = zs[j]:=getElem!_pos zs.toArray j (by simpa using hj.1)
  have e3:zs.toArray[j-1]! = zs[j-1]:=getElem!_pos zs.toArray (j-1) (by simp; omega)
  have hk:=hj.2
  unfold Lib.keeps at hk
  simp only [decide_eq_true_eq] at hk
  rcases hk with hk | hk
  · omega
  rw [e2,e3] at hk
  rw [e1,e2]
  have a1:zs[i]≤zs[j-1]:=by
    rcases Nat.lt_or_ge i (j-1) with h | h
    · exact List.pairwise_iff_getElem.1 hs i (j-1) hi.1 (by omega) h
    · have:i=j-1:=by omega
      subst this; exact W7 _
  have a2:zs[j-1]≤zs[j]:=List.pairwise_iff_getElem.1 hs (j-1) j (by omega) hj.1 (by omega)
  omega
theorem Qw (l:List Int):(Et l).Pairwise (·≤·):=by
  have:=List.pairwise_mergeSort (le:=fun x y:Int=>decide (x≤y)) (fun a b c h1 h2=>by simp at *; omega) (fun a b=>by simp; omega) l
  unfold Et
  exact this.imp fun h=>by simpa using h
theorem TC {l:List Int} {y:Int}:y∈Et l↔y∈l:=List.mem_mergeSort
def Qx (ms:List (List Int)) (P:Nat→Int→Prop) (B:Nat):Prop:=∀ k l,ms[k]? = some l→l.length≤B∧∀ y,y∈l↔P k y
def gM (n:Nat) (r:Af) (s:List (List Int)) (a b:Int):Option (List (List Int)):=((AC n r b).bind fun x63 =>
    (bif x63 then
    ((Cm s a).bind fun x68 =>
    ((Jj x68 ([b]:List Int)).bind fun x72 =>
    ((Cm s a).bind fun x73 =>
    ((upd s a x72).bind fun u_376 =>
    some u_376))))
    else
    some s))
theorem TD (n:Nat) (r:Af) (x:Int):AC n r x=some (UY r x):=by
  unfold AC
  rw [Gc]; rfl
theorem Wf (n:Nat) (r:Af) (ms:List (List Int)) (s:Nat) (t:Int) (P:Nat→Int→Prop) (B:Nat) (hs:s<ms.length) (hI:Qx ms P B) (hB:B<1000000):∃ ms',gM n r ms (s:Int) t=some ms'∧ms'.length=ms.length∧Qx ms' (fun k y=>P k y∨(k=s∧y=t∧UY r y=true)) (B+1):=by
  unfold gM
  rw [TD,Wz]
  cases hin:UY r t with
  | false =>
    refine⟨ms,rfl,rfl,fun k l hk=>?_⟩
    obtain⟨h1,h2⟩:=hI k l hk
    refine⟨by omega,fun y=>?_⟩
    rw [h2]
    constructor
    · exact .inl
    · rintro(h | ⟨_,rfl,h⟩)
      · exact h
      · rw [hin] at h; cases h
  | true =>
    have h0:=hI s _ (Wy hs)
    rw [cond_true,AH _ _ hs,Wz,DE _ _ (by simp; omega),Wz,Wz,NE _ _ _ hs,Wz]
    refine⟨_,rfl,by simp,fun k l hk=>?_⟩
    by_cases hks:s=k
    · subst hks
      rw [WY hs] at hk
      cases hk
      refine⟨by simp; omega,fun y=>?_⟩
      rw [List.mem_append,h0.2,List.mem_singleton]
      constructor
      · rintro(h | rfl)
        · exact .inl h
        · exact .inr ⟨rfl,rfl,hin⟩
      · rintro(h | ⟨_,h,_⟩)
        · exact .inl h
        · exact .inr h
    · rw [List.getElem?_set_ne hks] at hk
      obtain⟨h1,h2⟩:=hI k l hk
      refine⟨by omega,fun y=>?_⟩
      rw [h2]
      constructor
      · exact .inl
      · rintro(h | ⟨h,_⟩)
        · exact h
        · exact absurd h.symm hks
theorem Qx.imp {ms:List (List Int)} {P Q:Nat→Int→Prop} {B C:Nat} (h:Qx ms P B) (hPQ:∀ k y,P k y↔Q k y) (hB:B≤C):Qx ms Q C:=fun k l hk=>⟨Nat.le_trans (h k l hk).1 hB,fun y=>((h k l hk).2 y).trans (hPQ k y)⟩
theorem Og (n:Nat) (r:Af):∀ (pl:List (Int×Int))(ms:List (List Int))(P:Nat→Int→Prop)(B:Nat),(∀ p∈pl,0≤p.1∧p.1<(ms.length:Int))→Qx ms P B→B+pl.length<1000000 →
    ∃ ms',pl.foldlM (fun x p=>gM n r x p.1 p.2) ms=some ms'∧ms'.length=ms.length∧Qx ms' (fun k y=>P k y∨(((k:Int),y)∈pl∧UY r y=true)) (B+pl.length)
  | [],ms,P,B,_,hI,_=>⟨ms,rfl,rfl,hI.imp (fun k y=>by simp) (by simp)⟩
  | p::pl,ms,P,B,hp,hI,hB=>by
    have h1:=hp p (by simp)
    simp only [WT] at hB
    obtain⟨m1,e1,l1,I1⟩:=Wf n r ms p.1.toNat p.2 P B (by omega) hI (by omega)
    rw [show((p.1.toNat:Nat):Int)=p.1 by omega] at e1
    obtain⟨m2,e2,l2,I2⟩:=Og n r pl m1 _ _ (fun q hq=>by rw [l1]; exact hp q (W9 _ hq)) I1 (by omega)
    refine⟨m2,?_,by omega,I2.imp (fun k y=>?_) (by simp; omega)⟩
    · rw [W4,e1]; exact e2
    · rw [List.mem_cons]
      constructor
      · rintro((h | ⟨h,h2,h3⟩) | ⟨h,h2⟩)
        · exact .inl h
        · refine .inr ⟨.inl ?_,h3⟩
          rw [h2,h]
          exact Prod.ext (by simp only []; omega) rfl
        · exact .inr ⟨.inr h,h2⟩
      · rintro(h | ⟨h | h,h2⟩)
        · exact .inl (.inl h)
        · refine .inl (.inr ⟨?_,?_,h2⟩)
          · have:=congrArg Prod.fst h; simp only [] at this; omega
          · exact congrArg Prod.snd h
        · exact .inr ⟨h,h2⟩
theorem PE (w:AM) (x18:List (List Int)) (hb:x18.length≤50):∀ (n i:Nat)(x:List (List Int)),x18.length<n+i→i≤x18.length→x.length=x18.length→(∀ k,k<i→x[k]? = some [w.lH.fr,w.lH.to_])→Bw n w x18 x (i:Int)=some (List.replicate x18.length [w.lH.fr,w.lH.to_])
  | 0,i,x,h,hi,_,_=>by omega
  | n+1,i,x,h,hi,hl,hk=>by
    rw [Bw,BC]
    by_cases hx:i<x18.length
    · simp only [hx,decide_true,cond_true]
      rw [AH _ _ (by omega),Wz,NE _ _ _ (by omega),Wz,Dc i (by omega)]
      refine PE w x18 hb n (i+1) _ (by omega) (by omega) (by simp [hl]) fun k hk'=>?_
      rw [List.getElem?_set]
      by_cases hki:i=k
      · subst hki; simp; omega
      · rw [if_neg hki]; exact hk k (by omega)
    · simp only [hx,decide_false,cond_false,Option.some.injEq]
      apply List.ext_getElem?
      intro k
      rw [WX]
      split
      · exact hk k (by omega)
      · exact W6 (by omega)
theorem Kf {st lF turn:Int} {lA:List Int}:∀ (n:Nat)(tm s:Int),(Ci st lF turn lA n tm s).length≤n
  | 0,_,_=>by simp [Ci]
  | n+1,tm,s=>by
    rw [Ci]
    split
    · rw [WT]
      split
      · have:=Kf (st:=st) (lF:=lF) (turn:=turn) (lA:=lA) n (tm+turn) (st-1-s); omega
      · split
        · rename_i d _
          have:=Kf (st:=st) (lF:=lF) (turn:=turn) (lA:=lA) n (tm+d) (s+1); omega
        · simp
    · simp
theorem TE {r:Af} {p:Bj×A8} (o:Ga r p) {n:Nat} (hn:30≤n) (hl:r.lA.length≤20) (k:Nat) (y:Int):((k:Int),y)∈Ci ((r.lA.length:Int)+1) p.1.lF p.2.turn p.2.lA n p.1.tm p.1.stop↔FA ((r.lA.length:Int)+1) p k=some y:=by
  have h0:=o.s0
  rw [Hb o.t n 40 _ _ (by omega) (by omega)]
  unfold FA
  constructor
  · intro h
    obtain⟨j,hj⟩:=List.mem_iff_getElem?.1 h
    exact OA (Gs o.t 40 _ _) hj
  · exact P1
theorem PF (w:AM) (l:List (Bj×A8)) (hl:w.lH.lA.length≤20) (hok:∀ p∈l,Ga w.lH p) (h20:l.length≤20):∀ (n i:Nat)(ms:List (List Int))(P:Nat→Int→Prop)(B:Nat),l.length+30<n+i→n≤1000→i≤l.length→ms.length=w.lH.lA.length+1→Qx ms P B→B≤1000*i+10 →
    ∃ ms',By n w (l.map Prod.fst,l.map Prod.snd) ms (i:Int)=some ms'∧ms'.length=w.lH.lA.length+1∧Qx ms' (fun k y=>P k y∨((∃ p∈l.drop i,FA ((w.lH.lA.length:Int)+1) p k=some y)∧UY w.lH y=true)) 30000
  | 0,i,ms,P,B,h,_,hi,_,_,_=>by omega
  | n+1,i,ms,P,B,h,hn,hi,hm,hI,hB=>by
    rw [By]
    simp only []
    rw [BC,WG]
    by_cases hx:i<l.length
    · have o:=hok _ (W5 hx)
      simp only [hx,decide_true,cond_true]
      rw [AH _ i (by simpa using hx),AH _ i (by simpa using hx)]
      simp only [Wz,WF,BR]
      obtain⟨m1,e1,l1,I1⟩:=Og n w.lH (Ci ((w.lH.lA.length:Int)+1) l[i].1.lF l[i].2.turn l[i].2.lA n l[i].1.tm l[i].1.stop) ms P B (fun p hp=>by
        have:=F9 o.t n _ _ p hp
        rw [hm]; constructor <;> omega) hI (by have:=Kf (st:=(w.lH.lA.length:Int)+1) (lF:=l[i].1.lF) (turn:=l[i].2.turn) (lA:=l[i].2.lA) n l[i].1.tm l[i].1.stop; omega)
      have e2:=Mh n (fun s a b=>(gM n w.lH s a b).bind fun s1=>some (s1,true)) (gM n w.lH) (fun s a b=>HF (gM n w.lH s a b)) l[i].1 w.lH l[i].2 ms hl o.q o.len o.t o.tm0 o.tm1 (by omega) (by omega) o.s0 o.s1
      rw [e1] at e2
      have hpl:=Kf (st:=(w.lH.lA.length:Int)+1) (lF:=l[i].1.lF) (turn:=l[i].2.turn) (lA:=l[i].2.lA) n l[i].1.tm l[i].1.stop
      obtain⟨m2,f1,f2,f3⟩:=PF w l hl hok h20 n (i+1) m1 _ _ (by omega) (by omega) (by omega) (by rw [l1,hm]) I1 (by omega)
      refine⟨m2,?_,f2,f3.imp (fun k y=>?_) (Nat.le_refl _)⟩
      · show((AW n (fun s a b=>(gM n w.lH s a b).bind fun s1=>some (s1,true)) ms l[i].1 w.lH l[i].2).bind _)=_
        rw [e2,Wz,Dc i (by omega)]
        exact f1
      · rw [AR hx,TE o (by omega) hl]
        constructor
        · rintro((h | ⟨h,h2⟩) | ⟨⟨p,hp,h⟩,h2⟩)
          · exact .inl h
          · exact .inr ⟨⟨_,List.mem_cons_self,h⟩,h2⟩
          · exact .inr ⟨⟨p,W9 _ hp,h⟩,h2⟩
        · rintro(h | ⟨⟨p,hp,h⟩,h2⟩)
          · exact .inl (.inl h)
          · rcases List.mem_cons.1 hp with rfl | hp
            · exact .inl (.inr ⟨h,h2⟩)
            · exact .inr ⟨⟨p,hp,h⟩,h2⟩
    · have hi':i=l.length:=by omega
      have hd:l.drop i=[]:=WC (by omega)
      simp only [hx,decide_false,cond_false]
      exact⟨ms,rfl,hm,hI.imp (fun k y=>by rw [hd]; simp) (by omega)⟩
theorem PG (o:List (List Int)) (hb:o.length≤50):∀ (n i:Nat)(x:List (List Int)),o.length<n+i→i≤o.length→x.length=o.length→(∀ (k:Nat) l,o[k]? = some l→l.length≤1000000∧x[k]? = some (if k<i then Lib.compact (Et l) else l)) →
    Bz n o x (i:Int)=some (o.map fun l=>Lib.compact (Et l))
  | 0,i,x,h,hi,_,_=>by omega
  | n+1,i,x,h,hi,hl,hk=>by
    rw [Bz,BC]
    by_cases hx:i<o.length
    · simp only [hx,decide_true,cond_true]
      obtain⟨h1,h2⟩:=hk i _ (Wy hx)
      rw [if_neg (by omega)] at h2
      have hix:i<x.length:=by omega
      have e0:Cm x (i:Int)=some o[i]:=by rw [Qp,h2]
      have e1:RH o[i]=some (Et o[i]):=by unfold RH; rw [if_pos (by omega)]
      have e2:RJ (Et o[i])=some (Lib.compact (Et o[i])):=by unfold RJ; rw [if_pos (by rw [Kp]; omega)]
      have e3:Cm (x.set i (Et o[i])) (i:Int)=some (Et o[i]):=by rw [Qp,WY hix]
      rw [e0,Wz,e1,Wz,NE _ _ _ hix,Wz,e3,Wz,e2,Wz,Wz,NE _ _ _ (by simpa using hix),Wz,List.set_set,Dc i (by omega)]
      refine PG o hb n (i+1) _ (by omega) (by omega) (by simp [hl]) fun k l hkl=>?_
      obtain⟨g1,g2⟩:=hk k l hkl
      refine⟨g1,?_⟩
      rw [List.getElem?_set]
      by_cases hki:i=k
      · subst hki
        have:o[i]=l:=by rw [Wy hx] at hkl; exact Option.some.inj hkl
        rw [if_pos rfl,if_pos hix,if_pos (by omega),this]
      · rw [if_neg hki,g2]
        by_cases hlt:k<i
        · rw [if_pos hlt,if_pos (by omega)]
        · rw [if_neg hlt,if_neg (by omega)]
    · simp only [hx,decide_false,cond_false,Option.some.injEq]
      apply List.ext_getElem?
      intro k
      rw [WE]
      cases hok:o[k]? with
      | none=>rw [W6 (by have:=List.getElem?_eq_none_iff.1 hok; omega)]; rfl
      | some l =>
        rw [(hk k l hok).2,if_pos (by have:=(List.getElem?_eq_some_iff.1 hok).1; omega)]; rfl
theorem Uk (n:Nat) (r:Af) (a:An) (t:Ap) (V:Ct r) (S:P2 r a t) (hok:∀ p∈Dx r a t,Ga r p) (hn:90≤n) (hn2:n≤900) :
    ∃ ml,CG n ⟨r,a⟩ t=some ml∧ml.length=r.lA.length+1∧∀ (s:Nat) l,ml[s]? = some l→l.Pairwise (· < ·)∧(∀ y,y∈l↔y∈Ev r a t s)∧l.length≤30000:=by
  have:=V.nl
  have:=S.nb
  have:=S.ns
  have hlt:(Dx r a t).length≤r.lB.length+r.lC.length:=by
    unfold Dx
    rw [WU,WG,WV]
    have:=WW (Iv r a t) (List.range r.lC.length)
    rw [WV] at this
    omega
  unfold CG
  simp only []
  rw [DF n r (by omega),Wz]
  have eM:mk ((r.lA.length:Int)+1) ([]:List Int)=some (List.replicate (r.lA.length+1) []):=by
    rw [show((r.lA.length:Int)+1)=((r.lA.length+1:Nat):Int) by omega]; exact Wm _ _ (by omega)
  rw [eM,Wz]
  have e1:=PE ⟨r,a⟩ (List.replicate (r.lA.length+1) []) (by simp; omega) n 0 (List.replicate (r.lA.length+1) []) (by simp; omega) (by omega) rfl (fun k hk=>by omega)
  rw [W1,List.length_replicate] at e1
  rw [e1,Wz,NJ n r a t S (by omega),Wz]
  obtain⟨m2,f1,f2,f3⟩:=PF ⟨r,a⟩ (Dx r a t) (by simp only; omega) hok (by omega) n 0 (List.replicate (r.lA.length+1) [r.fr,r.to_]) (fun _ y=>y=r.fr∨y=r.to_) 2 (by omega) (by omega) (by omega) (by simp) (fun k l hk=>by
    rw [WX] at hk
    split at hk
    · cases hk; exact⟨Nat.le_refl _,fun y=>by simp⟩
    · cases hk) (by omega)
  rw [W1] at f1
  rw [f1,Wz]
  have e3:=PG m2 (by rw [f2]; simp only; omega) n 0 m2 (by rw [f2]; simp only; omega) (by omega) rfl (fun k l hk=>⟨by have:=(f3 k l hk).1; omega,by rw [if_neg (by omega)]; exact hk⟩)
  rw [W1] at e3
  rw [e3,Wz]
  refine⟨_,rfl,by rw [WG,f2],fun s l hl=>?_⟩
  rw [WE] at hl
  obtain⟨l0,h0,rfl⟩:=Option.map_eq_some_iff.1 hl
  obtain⟨g1,g2⟩:=f3 s l0 h0
  have hs:s<r.lA.length+1:=by have:=(List.getElem?_eq_some_iff.1 h0).1; rw [f2] at this; exact this
  refine⟨Oe (Qw l0),fun y=>?_,Nat.le_trans (Na _) (by rw [Kp]; exact g1)⟩
  rw [Rq,TC,g2,DR V hs,W3]
  unfold UY
  constructor
  · rintro((h | h) | ⟨h,h2⟩)
    · exact .inl h
    · exact .inr (.inl h)
    · exact .inr (.inr ⟨h,of_decide_eq_true h2⟩)
  · rintro(h | h | ⟨h,h2⟩)
    · exact .inl (.inl h)
    · exact .inl (.inr h)
    · exact .inr ⟨h,decide_eq_true h2⟩
open Go Go.RowKit
theorem ST (l:List Int) (hb:l.length≤90) (hr:∀ x∈l,0≤x∧x≤10000):∀ (n i:Nat)(acc:Int),l.length+102<n+i→i+1≤l.length→0≤acc→Dd n l (l.drop 1) (i:Int) acc=some (max acc (GP (l.drop i)))
  | 0,i,acc,h,hi,_=>by omega
  | n+1,i,acc,h,hi,h0=>by
    have hl1:(l.drop 1).length=l.length-1:=by simp
    rw [Dd,BC]
    by_cases hx:i<(l.drop 1).length
    · have hj:i+1<l.length:=by omega
      have hi0:i<l.length:=by omega
      have b1:=hr _ (W5 hj)
      have b2:=hr _ (W5 hi0)
      have e0:(l.drop 1)[i]=l[i+1]:=by rw [List.getElem_drop]; congr 1; omega
      simp only [hx,decide_true,cond_true]
      rw [AH _ _ hx,Wz,AH _ _ hi0,Wz,e0,G9 (x:=l[i+1]-l[i]) (by omega) (by omega),T3 n _ (by omega) (by simp) (by simp),Wz,Dc i (by omega)]
      have em:maxL [acc,l[i+1]-l[i]]=max acc (l[i+1]-l[i]):=rfl
      rw [em,ST l hb hr n (i+1) _ (by omega) (by omega) (by omega),AR hi0,AR hj]
      show some (max (max acc (l[i+1]-l[i])) (GP (l[i+1]::l.drop (i+1+1))))=some (max acc (max (l[i+1]-l[i]) (GP (l[i+1]::l.drop (i+1+1)))))
      congr 1
      omega
    · simp only [hx,decide_false,cond_false,Option.some.injEq]
      have hi':i+1=l.length:=by omega
      have:GP (l.drop i)=0:=by
        rw [AR (show i<l.length by omega),WC (by omega)]; rfl
      rw [this]; omega
theorem VG (n:Nat) (l:List Int) (hn:200≤n) (h1:1≤l.length) (hb:l.length≤90) (hr:∀ x∈l,0≤x∧x≤10000):G0 n l=some (GP l):=by
  unfold G0
  have es:sub l 1=some (l.drop 1):=by unfold sub; rw [if_pos (by omega)]; rfl
  have e:=ST l hb hr n 0 0 (by omega) (by omega) (W7 _)
  rw [W1,W3] at e
  rw [es,Wz,e,Wz]
  have:=Gv l
  congr 1; omega
theorem Rr (ml:List (List Int)) (e:Int) (hb:ml.length≤50) (hm:∀ l∈ml,1≤l.length∧l.length≤90∧∀ x∈l,0≤x∧x≤10000):∀ (n i:Nat)(acc:List Int),ml.length+210<n+i→i≤ml.length→acc.length≤i→CN n (ml,e) acc (i:Int)=some (acc++(ml.drop i).map GP)
  | 0,i,acc,h,hi,_=>by omega
  | n+1,i,acc,h,hi,ha=>by
    rw [CN]
    simp only []
    rw [BC]
    by_cases hx:i<ml.length
    · obtain⟨h1,h2,h3⟩:=hm _ (W5 hx)
      simp only [hx,decide_true,cond_true]
      rw [AH _ _ hx,Wz,VG n _ (by omega) h1 h2 h3,Wz,DE _ _ (by simp; omega),Wz,Dc i (by omega),Rr ml e hb hm n (i+1) _ (by omega) (by omega) (by simp; omega),AR hx,W8]
      simp only [W0,List.singleton_append]
    · have:i=ml.length:=by omega
      simp [this]
def Oh (r:Af) (t:Ap) (i:Nat):Bool:=decide ((r.lB[i]!).tm.lo≤t.tm[i]!∧t.tm[i]!≤(r.lB[i]!).tm.hi) && decide (r.turn.lo≤t.lE[i]!∧t.lE[i]!≤r.turn.hi)
def Oi (r:Af) (x:List Int):Bool:=decide (x.length=r.lA.length) && (List.range r.lA.length).all fun k=>decide ((r.lA[k]!).lo≤x[k]!∧x[k]!≤(r.lA[k]!).hi)
def K0 (r:Af) (t:Ap):Bool:=decide (t.tm.length=r.lB.length∧t.lE.length=r.lB.length∧t.lA.length=r.lB.length+r.lC.length) && ((List.range r.lB.length).all (Oh r t) && t.lA.all (Oi r))
theorem Ul (n:Nat) (x:Rg) (y:Int):Cu n x y=some (decide (x.lo≤y∧y≤x.hi)):=by
  unfold Cu
  rw [Gc]; rfl
theorem PH (r:Af) (t:Ap) (hb:r.lB.length≤20) (h1:t.tm.length=r.lB.length) (h2:t.lE.length=r.lB.length):∀ (n i:Nat),r.lB.length<n+i→i≤r.lB.length→B4 n r t (i:Int)=some (if ((List.range r.lB.length).drop i).all (Oh r t) then Ex.go () else Ex.ret false)
  | 0,i,h,hi=>by omega
  | n+1,i,h,hi=>by
    rw [B4,BC]
    by_cases hx:i<r.lB.length
    · have q1:i<t.tm.length:=by omega
      have q2:i<t.lE.length:=by omega
      have q6:i<(List.range r.lB.length).length:=by simpa using hx
      simp only [hx,decide_true,cond_true,AH _ _ hx,AH _ _ q1,AH _ _ q2,Wz,Ul]
      rw [AR q6,WL,WA,Dc i (by omega),PH r t hb h1 h2 n (i+1) (by omega) (by omega)]
      unfold Oh
      rw [BO _ _ hx,BO _ _ q1,BO _ _ q2]
      cases decide ((r.lB[i]).tm.lo≤t.tm[i]∧t.tm[i]≤(r.lB[i]).tm.hi) with
      | false=>rfl
      | true =>
        simp only [WM,cond_false,WN]
        cases decide (r.turn.lo≤t.lE[i]∧t.lE[i]≤r.turn.hi) with
        | false=>rfl
        | true=>rfl
    · have:i=r.lB.length:=by omega
      have hd:(List.range r.lB.length).drop r.lB.length=[]:=WC (by simp)
      simp [this,hd]
theorem Rs (r:Af) (t:Ap) (hb:r.lB.length≤20) (h1:t.tm.length=r.lB.length) (h2:t.lE.length=r.lB.length):∀ (n i:Nat),r.lB.length<n+i→i≤r.lB.length→EF n r t (i:Int)=some (if ((List.range r.lB.length).drop i).all (Oh r t) then Ex.go () else Ex.ret false)
  | 0,i,h,hi=>by omega
  | n+1,i,h,hi=>by
    rw [EF,BC]
    by_cases hx:i<r.lB.length
    · have q1:i<t.tm.length:=by omega
      have q2:i<t.lE.length:=by omega
      have q6:i<(List.range r.lB.length).length:=by simpa using hx
      simp only [hx,decide_true,cond_true,AH _ _ hx,AH _ _ q1,AH _ _ q2,Wz,Gb]
      rw [AR q6,WL,WA,Dc i (by omega),Rs r t hb h1 h2 n (i+1) (by omega) (by omega)]
      unfold Oh
      rw [BO _ _ hx,BO _ _ q1,BO _ _ q2]
      cases decide ((r.lB[i]).tm.lo≤t.tm[i]∧t.tm[i]≤(r.lB[i]).tm.hi) with
      | false=>rfl
      | true =>
        simp only [WM,cond_false,WN]
        cases decide (r.turn.lo≤t.lE[i]∧t.lE[i]≤r.turn.hi) with
        | false=>rfl
        | true=>rfl
    · have:i=r.lB.length:=by omega
      have hd:(List.range r.lB.length).drop r.lB.length=[]:=WC (by simp)
      simp [this,hd]
theorem PI (r:Af) (x:List Int) (hl:r.lA.length≤20) (hx0:x.length=r.lA.length):∀ (n i:Nat),r.lA.length<n+i→i≤r.lA.length→B5 n r x (i:Int)=some (if ((List.range r.lA.length).drop i).all (fun k=>decide ((r.lA[k]!).lo≤x[k]!∧x[k]!≤(r.lA[k]!).hi)) then Ex.go () else Ex.ret false)
  | 0,i,h,hi=>by omega
  | n+1,i,h,hi=>by
    rw [B5,BC]
    by_cases hx:i<x.length
    · have q1:i<r.lA.length:=by omega
      have q6:i<(List.range r.lA.length).length:=by simpa using q1
      simp only [hx,decide_true,cond_true,AH _ _ hx,AH _ _ q1,Wz,Ul]
      rw [AR q6,WL,WA,Dc i (by omega),PI r x hl hx0 n (i+1) (by omega) (by omega),BO _ _ hx,BO _ _ q1]
      cases decide ((r.lA[i]).lo≤x[i]∧x[i]≤(r.lA[i]).hi) <;> rfl
    · have:i=r.lA.length:=by omega
      have hd:(List.range r.lA.length).drop r.lA.length=[]:=WC (by simp)
      have hx' : ¬ r.lA.length<x.length:=by omega
      simp [this,hd,hx']
theorem Rt (r:Af) (t:Ap) (j:Nat) (hj:j<t.lA.length) (hl:r.lA.length≤20) (hx0:(t.lA[j]).length=r.lA.length):∀ (n i:Nat),r.lA.length<n+i→i≤r.lA.length→EG n r t (j:Int) (i:Int)=some (if ((List.range r.lA.length).drop i).all (fun k=>decide ((r.lA[k]!).lo≤(t.lA[j])[k]!∧(t.lA[j])[k]!≤(r.lA[k]!).hi)) then Ex.go () else Ex.ret false)
  | 0,i,h,hi=>by omega
  | n+1,i,h,hi=>by
    rw [EG,BC]
    by_cases hx:i<r.lA.length
    · have q1:i<(t.lA[j]).length:=by omega
      have q6:i<(List.range r.lA.length).length:=by simpa using hx
      simp only [hx,decide_true,cond_true,AH _ _ hx,AH _ _ hj,AH _ _ q1,Wz,Gb]
      rw [AR q6,WL,WA,Dc i (by omega),Rt r t j hj hl hx0 n (i+1) (by omega) (by omega),BO _ _ hx,BO _ _ q1]
      cases decide ((r.lA[i]).lo≤(t.lA[j])[i]∧(t.lA[j])[i]≤(r.lA[i]).hi) <;> rfl
    · have:i=r.lA.length:=by omega
      have hd:(List.range r.lA.length).drop r.lA.length=[]:=WC (by simp)
      simp [this,hd]
theorem PJ (r:Af) (t:Ap) (hl:r.lA.length≤20) (hb:t.lA.length≤20):∀ (n i:Nat),t.lA.length+30<n+i→i≤t.lA.length→B6 n r t (i:Int)=some (if (t.lA.drop i).all (Oi r) then Ex.go () else Ex.ret false)
  | 0,i,h,hi=>by omega
  | n+1,i,h,hi=>by
    rw [B6,BC]
    by_cases hx:i<t.lA.length
    · simp only [hx,decide_true,cond_true,AH _ _ hx,Wz]
      rw [AR hx,WL,Dc i (by omega),PJ r t hl hb n (i+1) (by omega) (by omega)]
      unfold Oi
      by_cases hq:(t.lA[i]).length=r.lA.length
      · have e:=PI r (t.lA[i]) hl hq n 0 (by omega) (by omega)
        rw [W1,W3] at e
        have hne:(((t.lA[i]).length:Int) != (r.lA.length:Int))=false:=by simp [hq]
        rw [hne,cond_false,e,decide_eq_true hq,WN]
        cases (List.range r.lA.length).all (fun k=>decide ((r.lA[k]!).lo≤(t.lA[i])[k]!∧(t.lA[i])[k]!≤(r.lA[k]!).hi)) <;> rfl
      · have hne:(((t.lA[i]).length:Int) != (r.lA.length:Int))=true:=by simp; omega
        rw [hne,cond_true,decide_eq_false hq,WO,WO]
        rfl
    · have:i=t.lA.length:=by omega
      simp [this]
theorem Ru (r:Af) (t:Ap) (hl:r.lA.length≤20) (hb:t.lA.length≤20):∀ (n i:Nat),t.lA.length+30<n+i→i≤t.lA.length→EH n r t (i:Int)=some (if (t.lA.drop i).all (Oi r) then Ex.go () else Ex.ret false)
  | 0,i,h,hi=>by omega
  | n+1,i,h,hi=>by
    rw [EH,BC]
    by_cases hx:i<t.lA.length
    · simp only [hx,decide_true,cond_true,AH _ _ hx,Wz]
      rw [AR hx,WL,Dc i (by omega),Ru r t hl hb n (i+1) (by omega) (by omega)]
      unfold Oi
      by_cases hq:(t.lA[i]).length=r.lA.length
      · have e:=Rt r t i hx hl hq n 0 (by omega) (by omega)
        rw [W1,W3] at e
        have hne:(((t.lA[i]).length:Int) != (r.lA.length:Int))=false:=by simp [hq]
        rw [hne,cond_false,e,decide_eq_true hq,WN]
        cases (List.range r.lA.length).all (fun k=>decide ((r.lA[k]!).lo≤(t.lA[i])[k]!∧(t.lA[i])[k]!≤(r.lA[k]!).hi)) <;> rfl
      · have hne:(((t.lA[i]).length:Int) != (r.lA.length:Int))=true:=by simp; omega
        rw [hne,cond_true,decide_eq_false hq,WO,WO]
        rfl
    · have:i=t.lA.length:=by omega
      simp [this]
theorem Um (n:Nat) (r:Af) (t:Ap) (hn:60≤n) (hl:r.lA.length≤20) (hb:r.lB.length≤20) (hs:r.lC.length≤20) (ht:t.lA.length≤20):CR n r t=some (K0 r t):=by
  unfold CR K0
  rw [G9 (x:=((r.lB.length:Nat):Int)+((r.lC.length:Nat):Int)) (by omega) (by omega)]
  by_cases h1:t.tm.length=r.lB.length
  · by_cases h2:t.lE.length=r.lB.length
    · by_cases h3:t.lA.length=r.lB.length+r.lC.length
      · have e1:=PH r t hb h1 h2 n 0 (by omega) (by omega)
        have e2:=PJ r t hl ht n 0 (by omega) (by omega)
        simp only [W1,W3] at e1 e2
        have hz:(((t.lA.length:Nat):Int) != ((r.lB.length:Nat):Int)+((r.lC.length:Nat):Int))=false:=by simp; omega
        simp only [h1,h2,hz,bne_self_eq_false,cond_false,Wz,e1,e2]
        rw [decide_eq_true ⟨trivial,trivial,h3⟩,WN]
        cases (List.range r.lB.length).all (Oh r t) with
        | false=>rfl
        | true=>cases t.lA.all (Oi r) <;> rfl
      · have:(((t.lA.length:Nat):Int) != ((r.lB.length:Nat):Int)+((r.lC.length:Nat):Int))=true:=by simp; omega
        simp only [h1,h2,h3,this,bne_self_eq_false,cond_false,cond_true,Wz,and_false,decide_false,WO]
    · have:(((t.lE.length:Nat):Int) != ((r.lB.length:Nat):Int))=true:=by simp; omega
      simp only [h1,h2,this,bne_self_eq_false,cond_false,cond_true,Wz,false_and,and_false,decide_false,WO]
  · have:(((t.tm.length:Nat):Int) != ((r.lB.length:Nat):Int))=true:=by simp; omega
    simp only [h1,this,cond_true,Wz,false_and,decide_false,WO]
theorem Ve (n:Nat) (r:Af) (t:Ap) (hn:60≤n) (hl:r.lA.length≤20) (hb:r.lB.length≤20) (hs:r.lC.length≤20) (ht:t.lA.length≤20):J1 n r t=some (K0 r t):=by
  unfold J1 K0
  rw [G9 (x:=((r.lB.length:Nat):Int)+((r.lC.length:Nat):Int)) (by omega) (by omega)]
  by_cases h1:t.tm.length=r.lB.length
  · by_cases h2:t.lE.length=r.lB.length
    · by_cases h3:t.lA.length=r.lB.length+r.lC.length
      · have e1:=Rs r t hb h1 h2 n 0 (by omega) (by omega)
        have e2:=Ru r t hl ht n 0 (by omega) (by omega)
        simp only [W1,W3] at e1 e2
        have hz:(((t.lA.length:Nat):Int) != ((r.lB.length:Nat):Int)+((r.lC.length:Nat):Int))=false:=by simp; omega
        simp only [h1,h2,hz,bne_self_eq_false,cond_false,Wz,e1,e2]
        rw [decide_eq_true ⟨trivial,trivial,h3⟩,WN]
        cases (List.range r.lB.length).all (Oh r t) with
        | false=>rfl
        | true=>cases t.lA.all (Oi r) <;> rfl
      · have:(((t.lA.length:Nat):Int) != ((r.lB.length:Nat):Int)+((r.lC.length:Nat):Int))=true:=by simp; omega
        simp only [h1,h2,h3,this,bne_self_eq_false,cond_false,cond_true,Wz,and_false,decide_false,WO]
    · have:(((t.lE.length:Nat):Int) != ((r.lB.length:Nat):Int))=true:=by simp; omega
      simp only [h1,h2,this,bne_self_eq_false,cond_false,cond_true,Wz,false_and,and_false,decide_false,WO]
  · have:(((t.tm.length:Nat):Int) != ((r.lB.length:Nat):Int))=true:=by simp; omega
    simp only [h1,this,cond_true,Wz,false_and,decide_false,WO]
theorem Un {r:Af} {t:Ap} (h:K0 r t=true):Fz r t:=by
  unfold K0 at h
  rw [WP,WP,decide_eq_true_eq,WQ,WQ] at h
  obtain⟨⟨h1,h2,h3⟩,h4,h5⟩:=h
  have fb:∀ i<r.lB.length,Oh r t i=true:=fun i hi=>h4 i (List.mem_range.2 hi)
  have lb:∀ i<r.lB.length+r.lC.length,Oi r (t.lA[i]!)=true:=fun i hi=>by
    rw [BO _ _ (by omega)]; exact h5 _ (W5 _)
  refine⟨h1,h2,h3,fun i hi=>?_,fun i hi=>?_,fun i hi=>?_,fun i hi k x d hx hd=>?_⟩
  · have:=fb i hi
    unfold Oh at this
    rw [WP,decide_eq_true_eq] at this
    exact this.1
  · have:=fb i hi
    unfold Oh at this
    rw [WP,decide_eq_true_eq,decide_eq_true_eq] at this
    exact this.2
  · have:=lb i hi
    unfold Oi at this
    rw [WP,decide_eq_true_eq] at this
    exact this.1
  · have:=lb i hi
    unfold Oi at this
    rw [WP,decide_eq_true_eq,WQ] at this
    have hk:=(List.getElem?_eq_some_iff.1 hx).1
    have h6:=this.2 k (List.mem_range.2 hk)
    rw [decide_eq_true_eq] at h6
    have e1:r.lA[k]! = x:=by rw [getElem!_def,hx]
    have e2:(t.lA[i]!)[k]! = d:=by rw [getElem!_def,hd]
    rwa [e1,e2] at h6
theorem Oj {r:Af} {t:Ap} (T:Fz r t):K0 r t=true:=by
  unfold K0
  rw [WP,WP,decide_eq_true_eq,WQ,WQ]
  refine⟨⟨T.tm,T.tt,T.lA⟩,fun i hi=>?_,fun x hx=>?_⟩
  · rw [WJ] at hi
    unfold Oh
    rw [WP,decide_eq_true_eq,decide_eq_true_eq]
    exact⟨T.tms i hi,T.tts i hi⟩
  · obtain⟨i,hi,rfl⟩:=List.mem_iff_getElem.1 hx
    have hi2:i<r.lB.length+r.lC.length:=by rw [← T.lA]; exact hi
    have h1:=T.ll i hi2
    have h2:=T.leg i hi2
    rw [BO _ _ hi] at h1 h2
    unfold Oi
    rw [WP,decide_eq_true_eq,WQ]
    refine⟨h1,fun k hk=>?_⟩
    rw [WJ] at hk
    rw [decide_eq_true_eq]
    have hk2:k<(t.lA[i]).length:=by omega
    rw [BO _ _ hk,BO _ _ hk2]
    exact h2 k _ _ (Wy hk) (Wy hk2)
theorem Ok:∀ {l m:List Int},l.Pairwise (· < ·)→(∀ y∈l,y∈m)→l.length≤m.length
  | [],_,_,_=>Nat.zero_le _
  | x::l,m,h,hs=>by
    have hp:=List.pairwise_cons.1 h
    have hx:=hs x List.mem_cons_self
    have:=Ok (l:=l) (m:=m.erase x) hp.2 fun y hy=>(List.mem_erase_of_ne (by have:=hp.1 y hy; omega)).2 (hs y (W9 _ hy))
    rw [List.length_erase_of_mem hx] at this
    have:=List.length_pos_of_mem hx
    rw [WT]; omega
theorem Rv (r:Af) (a:An) (t:Ap) (s:Nat):(Ev r a t s).length≤2+(r.lB.length+r.lC.length):=by
  unfold Ev
  have h1:(((((Dx r a t).map (NY (r.lA.length+1))).map fun p=>p[s]!).filter (UY r)).length)≤(Dx r a t).length:=by
    refine Nat.le_trans (List.length_filter_le _ _) ?_
    rw [WG,WG]; exact Nat.le_refl _
  have h2:(Dx r a t).length≤r.lB.length+r.lC.length:=by
    unfold Dx
    rw [WU,WG,WV]
    have:=WW (Iv r a t) (List.range r.lC.length)
    rw [WV] at this
    omega
  rw [WT,WT]; omega
theorem Qy (n:Nat) (r:Af) (a:An) (t:Ap) (hF:CX r=0) (hA:EB r a=true) (hT:K0 r t=true) (hn:280≤n) (hn2:n≤900) :
    ∃ ml,D5 n r a t=some (ml,0)∧ml.length=r.lA.length+1∧∀ (s:Nat) l,ml[s]? = some l→l.Pairwise (· < ·)∧(∀ y,y∈l↔y∈Ev r a t s)∧l.length≤20:=by
  have V:=Ha hF
  have A:=GU hA
  have T:=Un hT
  have S:=T.sized V A
  have hok:=T.ok V A
  have:=V.nl
  have:=V.nb
  have:=V.ns
  have hlk:=V.lG
  obtain⟨ml,e1,e2,e3⟩:=Uk n r a t V S hok (by omega) hn2
  have e4:∀ (s:Nat) l,ml[s]? = some l→l.Pairwise (· < ·)∧(∀ y,y∈l↔y∈Ev r a t s)∧l.length≤20:=fun s l hl=>by
    obtain⟨g1,g2,_⟩:=e3 s l hl
    have hs:s<r.lA.length+1:=by have:=(List.getElem?_eq_some_iff.1 hl).1; omega
    refine⟨g1,g2,?_⟩
    have h1:=Ok g1 fun y hy=>(g2 y).1 hy
    have h2:=Rv r a t s
    omega
  have hM:D5 n r a t=some (ml,0):=by
    unfold D5
    rw [Qt n r a (by omega) (by omega) (by omega) (by omega),hF,hA]
    simp only [ne_eq,not_true_eq_false,if_false,if_true,Wz,bne_self_eq_false,cond_false]
    rw [Um n r t (by omega) (by omega) (by omega) (by omega) (by have:=T.lA; omega),hT,Wz]
    simp only [WM,cond_false]
    rw [e1,Wz]
  exact⟨ml,hM,e2,e4⟩
theorem Rw (n:Nat) (r:Af) (a:An) (t:Ap) (hF:CX r=0) (hA:EB r a=true) (hT:K0 r t=true) (hn:280≤n) (hn2:n≤900) :
    ∃ ml,D5 n r a t=some (ml,0)∧EV n r a t=some (ml.map GP,0)∧ml.length=r.lA.length+1∧∀ (s:Nat) l,ml[s]? = some l→l.Pairwise (· < ·)∧(∀ y,y∈l↔y∈Ev r a t s)∧l.length≤20:=by
  have V:=Ha hF
  have:=V.nl
  have hlk:=V.lG
  obtain⟨ml,hM,e2,e4⟩:=Qy n r a t hF hA hT hn hn2
  refine⟨ml,hM,?_,e2,e4⟩
  unfold EV
  rw [hM,Wz]
  simp only [bne_self_eq_false,cond_false]
  have e5:=Rr ml 0 (by omega) (fun l hl=>by
    obtain⟨s,hs,rfl⟩:=List.mem_iff_getElem.1 hl
    obtain⟨g1,g2,g3⟩:=e4 s _ (Wy hs)
    have hs2:s<r.lA.length+1:=by omega
    refine⟨?_,by omega,fun x hx=>?_⟩
    · have:r.fr∈ml[s]:=(g2 _).2 ((DR V hs2).2 (.inl rfl))
      exact List.length_pos_of_mem this
    · rcases(DR V hs2).1 ((g2 x).1 hx) with rfl | rfl | ⟨_,h⟩ <;> omega) n 0 [] (by omega) (by omega) (by simp)
  rw [W1,W3] at e5
  rw [e5,Wz]
  rfl
open Go Go.RowKit
theorem PK (t:Ap) (hb:t.lA.length≤20) (hl:∀ x∈t.lA,x.length≤20):∀ (n i:Nat)(acc:List (List Int)),t.lA.length<n+i→i≤t.lA.length→acc.length=i→Eh n t acc (i:Int)=some (acc++t.lA.drop i)
  | 0,i,acc,h,hi,_=>by omega
  | n+1,i,acc,h,hi,ha=>by
    rw [Eh,BC]
    by_cases hx:i<t.lA.length
    · have h20:=hl _ (W5 hx)
      simp only [hx,decide_true,cond_true,AH _ _ hx,Wz,CZ n _ (show(t.lA[i]).length≤1000 by omega)]
      rw [DE _ _ (by simp; omega)]
      simp only [Wz]
      rw [Dc i (by omega),PK t hb hl n (i+1) _ (by omega) (by omega) (by simp; omega),AR hx,W0]
      rfl
    · have:i=t.lA.length:=by omega
      simp [this]
theorem Lu (n:Nat) (t:Ap) (hn:30≤n) (h1:t.tm.length≤20) (h2:t.lE.length≤20) (hb:t.lA.length≤20) (hl:∀ x∈t.lA,x.length≤20):GW n t=some t:=by
  unfold GW
  have:=PK t hb hl n 0 [] (by omega) (by omega) rfl
  rw [show((0:Nat):Int)=0 from rfl] at this
  rw [CZ n _ (by omega),CZ n _ (by omega),this]; rfl
open Go Go.RowKit
def VY (words:List (IK .u16)):Prop:=∀ x∈words,0≤x.n∧x.n≤65535
theorem Qz (n:Nat) (x:Rg) (words:List (IK .u16)) (hw:VY words) (k:Nat) (h0:0≤x.lo) (h1:x.lo≤x.hi) (h2:x.hi≤10000):∃ v,Hj n x words (k:Int)=some v∧x.lo≤v∧v≤x.hi:=by
  unfold Hj
  by_cases hl:words.length=0
  · have:(((words.length:Nat):Int) == 0)=true:=by simp [hl]
    rw [this,cond_true]
    exact⟨_,rfl,h1,W7 _⟩
  · have:(((words.length:Nat):Int) == 0)=false:=by rw [beq_eq_false_iff_ne]; omega
    rw [this,cond_false]
    have e1:nz ((words.length:Nat):Int)=some ():=by unfold nz; rw [if_neg (by omega)]
    have e2:Int.tmod (k:Int) ((words.length:Nat):Int)=((k % words.length:Nat):Int):=rfl
    have hk:k % words.length<words.length:=Nat.mod_lt _ (by omega)
    have hr:=hw _ (W5 hk)
    rw [e1,Wz,e2,AH _ _ hk,Wz,G9 (x:=(words[k % words.length]).n) (by omega) (by omega)]
    obtain⟨m,hm⟩:∃ m:Nat,(words[k % words.length]).n=(m:Int):=⟨_,(Int.toNat_of_nonneg hr.1).symm⟩
    rw [hm,G9 (x:=x.hi-x.lo) (by omega) (by omega),G9 (x:=x.hi-x.lo+1) (by omega) (by omega)]
    cases (Int.tmod (m:Int) 4 == 0) with
    | true=>exact⟨_,rfl,W7 _,h1⟩
    | false =>
      rw [cond_false]
      cases (Int.tmod (m:Int) 4 == 1) with
      | true=>exact⟨_,rfl,h1,W7 _⟩
      | false =>
        have e3:nz (x.hi-x.lo+1)=some ():=by unfold nz; rw [if_neg (by omega)]
        obtain⟨d,hd⟩:∃ d:Nat,x.hi-x.lo+1=(d:Int):=⟨_,(Int.toNat_of_nonneg (by omega)).symm⟩
        rw [cond_false,e3,Wz,hd]
        have e4:Int.tmod (m:Int) (d:Int)=((m % d:Nat):Int):=rfl
        have hmd:m % d<d:=Nat.mod_lt _ (by omega)
        rw [e4,G9 (by omega) (by omega)]
        exact⟨_,rfl,by omega,by omega⟩
theorem Ol (r:Af) (V:Ct r) (words:List (IK .u16)) (hw:VY words) (i:Nat) (hi:i≤20):∀ (n k:Nat)(acc:List Int),r.lA.length<n+k→k≤r.lA.length→acc.length≤k→∃ L,D4 n r words (i:Int) acc (k:Int)=some (acc++L)∧L.length+k=r.lA.length∧∀ (j:Nat)(x:Rg)(d:Int),r.lA[k+j]? = some x→L[j]? = some d→x.lo≤d∧d≤x.hi
  | 0,k,acc,h,hk,_=>by omega
  | n+1,k,acc,h,hk,ha=>by
    have hnl:=V.nl
    rw [D4,BC]
    by_cases hx:k<r.lA.length
    · have hv:=V.lA _ (W5 hx)
      simp only [hx,decide_true,cond_true]
      rw [AH _ _ hx,Wz,G9 (x:=9*(i:Int)) (by omega) (by omega),G9 (x:=9*(i:Int)+(k:Int)) (by omega) (by omega),show 9*(i:Int)+(k:Int)=((9*i+k:Nat):Int) by omega]
      obtain⟨v,e1,e2,e3⟩:=Qz n (r.lA[k]) words hw (9*i+k) (by omega) (by omega) (by omega)
      rw [e1,Wz,DE _ _ (by simp; omega),Wz,Dc k (by omega)]
      obtain⟨L,f1,f2,f3⟩:=Ol r V words hw i hi n (k+1) (acc++[v]) (by omega) (by omega) (by simp; omega)
      refine⟨v::L,by rw [f1]; simp,by simp; omega,fun j x d hj hd=>?_⟩
      cases j with
      | zero =>
        rw [Nat.add_zero,Wy hx] at hj
        cases hj
        simp at hd
        subst hd
        exact⟨e2,e3⟩
      | succ j=>exact f3 j x d (by rw [← hj]; congr 1; omega) (by simpa using hd)
    · have:k=r.lA.length:=by omega
      subst this
      refine⟨[],by simp,by simp,fun j x d _ hd=>by simp at hd⟩
structure Wo (r:Af) (i:Nat) (A B:List Int) (C:List (List Int)):Prop where
  a:A.length+i=r.lB.length∨A.length=0∧r.lB.length≤i
  b:B.length=A.length
  c:C.length+i=r.lB.length+r.lC.length
  at_:∀ (j:Nat)(x:CW)(d:Int),r.lB[i+j]? = some x→A[j]? = some d→x.tm.lo≤d∧d≤x.tm.hi
  bt:∀ d∈B,r.turn.lo≤d∧d≤r.turn.hi
  ct:∀ L∈C,L.length=r.lA.length∧∀ (j:Nat)(x:Rg)(d:Int),r.lA[j]? = some x→L[j]? = some d→x.lo≤d∧d≤x.hi
theorem KO (r:Af) (V:Ct r) (words:List (IK .u16)) (hw:VY words):∀ (n i:Nat)(x y:List Int)(z:List (List Int)),r.lB.length+r.lC.length+30<n+i→i≤r.lB.length+r.lC.length→x.length≤i→y.length≤i→z.length≤i →
    ∃ A B C,Da n r words x y z (i:Int)=some (x++A,y++B,z++C)∧Wo r i A B C
  | 0,i,x,y,z,h,hi,_,_,_=>by have:=V.nb; have:=V.ns; omega
  | n+1,i,x,y,z,h,hi,hx1,hy1,hz1=>by
    have hnl:=V.nl
    have hnb:=V.nb
    have hns:=V.ns
    have hT:=V.turn
    rw [Da,G9 (x:=((r.lB.length:Nat):Int)+((r.lC.length:Nat):Int)) (by omega) (by omega)]
    by_cases hx:i<r.lB.length+r.lC.length
    · rw [decide_eq_true (show(i:Int)<((r.lB.length:Nat):Int)+((r.lC.length:Nat):Int) by omega),cond_true]
      obtain⟨L,f1,f2,f3⟩:=Ol r V words hw i (by omega) n 0 [] (by omega) (by omega) (by simp)
      rw [W1] at f1
      rw [f1,Wz,W2,DE _ _ (by simp; omega),Wz]
      have hL:L.length=r.lA.length∧∀ (j:Nat)(x:Rg)(d:Int),r.lA[j]? = some x→L[j]? = some d→x.lo≤d∧d≤x.hi:=⟨by omega,fun j x d hj hd=>f3 j x d (by rw [Xa]; exact hj) hd⟩
      by_cases hb:i<r.lB.length
      · have hv:=V.lB _ (W5 hb)
        rw [decide_eq_true (show(i:Int)<((r.lB.length:Nat):Int) by omega),cond_true,AH _ _ hb,Wz,G9 (x:=9*(i:Int)) (by omega) (by omega),G9 (x:=9*(i:Int)+7) (by omega) (by omega),G9 (x:=9*(i:Int)+8) (by omega) (by omega),
          show 9*(i:Int)+7=((9*i+7:Nat):Int) by omega,show 9*(i:Int)+8=((9*i+8:Nat):Int) by omega]
        obtain⟨v,e1,e2,e3⟩:=Qz n (r.lB[i]).tm words hw (9*i+7) (by omega) (by omega) (by omega)
        obtain⟨u,g1,g2,g3⟩:=Qz n r.turn words hw (9*i+8) (by omega) (by omega) (by omega)
        rw [e1,Wz,DE _ _ (by simp; omega),Wz,g1,Wz,DE _ _ (by simp; omega),Wz,Dc i (by omega)]
        obtain⟨A,B,C,k1,k2⟩:=KO r V words hw n (i+1) (x++[v]) (y++[u]) (z++[L]) (by omega) (by omega) (by simp; omega) (by simp; omega) (by simp; omega)
        refine⟨v::A,u::B,L::C,by rw [k1]; simp,⟨?_,by simp [k2.b],by have:=k2.c; simp; omega,fun j q d hj hd=>?_,fun d hd=>?_,fun q hq=>?_⟩⟩
        · have:=k2.a; simp; omega
        · cases j with
          | zero =>
            rw [Nat.add_zero,Wy hb] at hj
            cases hj
            simp at hd; subst hd
            exact⟨e2,e3⟩
          | succ j=>exact k2.at_ j q d (by rw [← hj]; congr 1; omega) (by simpa using hd)
        · rcases List.mem_cons.1 hd with rfl | hd
          · exact⟨g2,g3⟩
          · exact k2.bt d hd
        · rcases List.mem_cons.1 hq with rfl | hq
          · exact hL
          · exact k2.ct q hq
      · rw [decide_eq_false (show ¬ (i:Int)<((r.lB.length:Nat):Int) by omega),cond_false,Dc i (by omega)]
        obtain⟨A,B,C,k1,k2⟩:=KO r V words hw n (i+1) x y (z++[L]) (by omega) (by omega) (by omega) (by omega) (by simp; omega)
        have ha:=k2.a
        refine⟨A,B,L::C,by rw [k1]; simp,⟨by omega,k2.b,by have:=k2.c; simp; omega,fun j q d hj hd=>?_,k2.bt,fun q hq=>?_⟩⟩
        · have:=(List.getElem?_eq_some_iff.1 hj).1; omega
        · rcases List.mem_cons.1 hq with rfl | hq
          · exact hL
          · exact k2.ct q hq
    · rw [decide_eq_false (show ¬ (i:Int)<((r.lB.length:Nat):Int)+((r.lC.length:Nat):Int) by omega),cond_false]
      refine⟨[],[],[],by simp,⟨.inr ⟨rfl,by omega⟩,rfl,by simp; omega,fun j q d _ hd=>by simp at hd,fun d hd=>by simp at hd,fun q hq=>by simp at hq⟩⟩
theorem TF (n:Nat) (r:Af) (V:Ct r) (words:List (IK .u16)) (hw:VY words) (hn:60≤n):∃ t,Hk n r words=some t∧Fz r t:=by
  have hnb:=V.nb
  have hns:=V.ns
  obtain⟨A,B,C,k1,k2⟩:=KO r V words hw n 0 [] [] [] (by omega) (by omega) (by simp) (by simp) (by simp)
  rw [W1] at k1
  unfold Hk
  rw [k1,Wz]
  have ha:=k2.a
  have hA:A.length=r.lB.length:=by omega
  have hB:B.length=r.lB.length:=by rw [k2.b]; exact hA
  have hC:C.length=r.lB.length+r.lC.length:=by have:=k2.c; omega
  refine⟨_,rfl,?_⟩
  simp only [W2]
  refine⟨hA,hB,hC,fun i hi=>?_,fun i hi=>?_,fun i hi=>?_,fun i hi k x d hx hd=>?_⟩
  · rw [BO _ _ hi,BO _ _ (show i<A.length by omega)]
    exact k2.at_ i _ _ (by rw [Xa]; exact Wy hi) (Wy _)
  · rw [BO _ _ (show i<B.length by omega)]
    exact k2.bt _ (W5 _)
  · rw [BO _ _ (show i<C.length by omega)]
    exact(k2.ct _ (W5 _)).1
  · rw [BO _ _ (show i<C.length by omega)] at hd
    exact(k2.ct _ (W5 _)).2 k x d hx hd
theorem Lv {r:Af} {a:An} {i:Nat} {x:Int} (h:(BK r a)[i]? = some x):x=WR r.fr r.to_ (AI r a i):=by
  unfold BK at h
  rw [WE] at h
  obtain⟨k,hk,rfl⟩:=Option.map_eq_some_iff.1 h
  obtain⟨hk1,hk2⟩:=List.getElem?_eq_some_iff.1 hk
  rw [WA] at hk2
  subst hk2; rfl
open Go Go.RowKit
theorem Rx (r:Af) (Q:Bool→Prop) (j:Int) (v g:List Int) (N:Nat) (l1:v.length=N) (l2:g.length=N) (hN:N≤100) (h1:∀ (i:Nat) x y,g[i]? = some x→v[i]? = some y→0≤x∧x≤y∧(j=1→y≤r.gap)) (K:Unit→Prop) (hK:K ()):∀ (n i:Nat),N<n+i→i≤N→B9 n r Q j (v,0) (g,0) (i:Int) K
  | 0,i,q,hi=>by omega
  | n+1,i,q,hi=>by
    rw [B9]
    simp only []
    rw [BC]
    by_cases hx:i<v.length
    · have x2:i<g.length:=by omega
      obtain⟨a1,a2,a3⟩:=h1 i _ _ (Wy x2) (Wy hx)
      rw [decide_eq_true hx,cond_true]
      refine⟨_,AH _ _ x2,?_⟩
      rw [decide_eq_false (by omega),cond_false]
      refine⟨_,AH _ _ x2,_,AH _ _ hx,?_⟩
      rw [decide_eq_false (by omega),cond_false]
      have ih:=Rx r Q j v g N l1 l2 hN h1 K hK n (i+1) (by omega) (by omega)
      rw [← Dc i (by omega)] at ih
      by_cases hj:j=1
      · have e:(j == 1)=true:=by simp [hj]
        have:=a3 hj
        rw [e,cond_true]
        refine⟨_,AH _ _ hx,?_⟩
        rw [decide_eq_false (by omega),cond_false]
        exact ih
      · have e:(j == 1)=false:=by simp [hj]
        rw [e,cond_false]
        exact ih
    · rw [decide_eq_false hx,cond_false]; exact hK
theorem Om {r:Af} (V:Ct r) {t:Ap} (T:Fz r t):t.tm.length≤20∧t.lE.length≤20∧t.lA.length≤20∧∀ x∈t.lA,x.length≤20:=by
  have:=V.nb
  have:=V.ns
  have:=V.nl
  have t1:=T.tm
  have t2:=T.tt
  have t3:=T.lA
  refine⟨by omega,by omega,by omega,fun x hx=>?_⟩
  obtain⟨i,hi,rfl⟩:=List.mem_iff_getElem.1 hx
  have:=T.ll i (by omega)
  rw [BO _ _ hi] at this; omega
theorem On (r:Af) (hF:CX r=0) (words:List (IK .u16)) (hwd:VY words) (stop:IK .u8) (k:Int) (s:Nat) (hs:s<r.lA.length+1) (hk:Int.tmod (IntKind.i64.wrap stop.n) k=(s:Int)) (l:List An) (hl:l.length≤2) (hA:∀ a∈l,EB r a=true) (hb:∀ b,l[1]? = some b→maxW r b≤r.gap) (K:List An→Prop) (hK:K l):∀ (n i:Nat),290≤n+i→n≤900→i≤l.length→BU n r words stop (fun x=>x=true) k l (i:Int) K
  | 0,i,q,_,hi=>by omega
  | n+1,i,q,h9,hi=>by
    rw [BU,BC]
    by_cases hx:i<l.length
    · have V:=Ha hF
      have:=V.nb
      have:=V.ns
      have:=V.nl
      have hB:=hA _ (W5 hx)
      have hbest:i=1→maxW r l[i]≤r.gap:=fun h=>hb _ (by rw [← h]; exact Wy hx)
      have ei:=AH _ _ hx
      generalize l[i]=b at *
      have B:=GU hB
      have b1:=B.lD
      have b2:=B.lE
      have b3:=B.lC
      have hR:=Ll n r (by omega) (by omega) (by omega) (by omega)
      have hBk:=Rl n b (by omega) (by omega) (by omega)
      have hAc:=M8 n b (by omega) (by omega) (by omega)
      have hW:=Ua n r b hF hB (by omega) (by omega)
      obtain⟨t,ht,T⟩:=TF n r V words hwd (by omega)
      obtain⟨p1,p2,p3,p4⟩:=Om V T
      have hTt:=Lu n t (by omega) p1 p2 p3 p4
      obtain⟨ml,_,m2,m3,m4⟩:=Rw n r b t hF hB (Oj T) (by omega) (by omega)
      rw [decide_eq_true hx,cond_true]
      refine⟨_,ei,_,hR,_,hBk,_,hAc,_,hW,_,ei,_,hR,_,hBk,_,hAc,_,ht,_,hTt,_,m2,_,ei,_,hR,_,hBk,_,hAc,?_⟩
      rw [hk]
      refine Uj hF hB (by omega) (by omega) s hs _ fun m late hm hlate=>?_
      have T2:=Qv V late
      obtain⟨q1,q2,q3,q4⟩:=Om V T2
      have hTo:=Rp n _ (by omega) q1 q2 q3 q4
      have hTr:=Lu n _ (by omega) q1 q2 q3 q4
      have hFi:=Ve n r (CJ r late) (by omega) (by omega) (by omega) (by omega) q3
      rw [Oj T2] at hFi
      obtain⟨ml2,_,k2,k3,k4⟩:=Rw n r b (CJ r late) hF hB (Oj T2) (by omega) (by omega)
      have hwl:(BK r b).length=r.lA.length+1:=by simp [BK]
      have z0:((0:Int) != 0)=false:=rfl
      have e1:((((BK r b).length:Nat):Int) != (r.lA.length:Int)+1)=false:=by simp [hwl]
      have e2:((((ml.map GP).length:Nat):Int) != (((BK r b).length:Nat):Int))=false:=by simp [hwl,m3]
      have e3:((((ml2.map GP).length:Nat):Int) != (((BK r b).length:Nat):Int))=false:=by simp [hwl,k3]
      refine⟨false,?_,?_⟩
      · simp only [z0,cond_false]
        rw [GN n r (by omega),Wz,e1,cond_false,e2,cond_false,hTo,Wz,hFi]; rfl
      rw [cond_false]
      refine Rx r _ (i:Int) (BK r b) (ml.map GP) (r.lA.length+1) hwl (by rw [WG,m3]) (by omega) (fun j x y hx hy=>?_) _ ?_ n 0 (by omega) (by omega)
      · rw [WE] at hx
        obtain⟨g,hg,rfl⟩:=Option.map_eq_some_iff.1 hx
        obtain⟨g1,g2,_⟩:=m4 j g hg
        have hj:j<r.lA.length+1:=by have:=(List.getElem?_eq_some_iff.1 hg).1; omega
        have:=PC T V B hj g1 g2
        rw [Lv hy]
        refine⟨Gv g,this,fun h1=>?_⟩
        have h2:=N5.1 (hbest (by omega)) _ (WH hy)
        rwa [Lv hy] at h2
      · refine⟨_,ei,_,hR,_,hBk,_,hAc,_,hTo,_,hTr,_,k2,?_⟩
        simp only [z0,cond_false]
        rw [e3,cond_false]
        have s2:s<ml2.length:=by omega
        refine⟨GP ml2[s],by rw [Qp,WE,Wy s2]; rfl,WR r.fr r.to_ (AI r b s),by rw [Qp]; simp [BK,hs],?_⟩
        obtain⟨g2,g3,_⟩:=k4 s _ (Wy s2)
        have hle:=PC T2 V B hs g2 g3
        have hge:WR r.fr r.to_ (AI r b s)≤GP ml2[s]:=by
          rcases hm with⟨_,h0⟩ | ⟨hm,he⟩
          · rw [h0]; exact Gv _
          · rw [← he]; exact T6 V B hs hm hlate g2 g3
        have e:(GP ml2[s] != WR r.fr r.to_ (AI r b s))=false:=by simp; omega
        rw [e,cond_false,Dc i (by omega)]
        exact On r hF words hwd stop k s hs hk l hl hA hb K hK n (i+1) (by omega) (by omega) (by omega)
    · rw [decide_eq_false hx,cond_false]; exact hK
theorem Nv (n:Nat) (hn:300≤n) (hn2:n≤900) (hw:Gf n=some true) (r:Af) (a:An) (words:List (IK .u16)) (stop:IK .u8) (hwd:VY words) (b0:0≤stop.n) (b1:stop.n≤255):Ft n r a words stop (fun x=>x=true):=by
  have aw:∃ x,Gf n=some x∧x=true:=⟨true,hw,rfl⟩
  unfold Ft
  obtain⟨b,hb,hbb⟩:=Ub n r a (by omega)
  refine⟨b,hb,?_⟩
  cases b with
  | false=>exact aw
  | true =>
    obtain⟨c1,c2,c3,c4,c5,c6,hF,hA⟩:=hbb rfl
    have V:=Ha hF
    rw [WM,cond_false]
    obtain⟨c,hc⟩:∃ c:Nat,stop.n=(c:Int):=⟨stop.n.toNat,by omega⟩
    have hk:Int.tmod (IntKind.i64.wrap stop.n) ((r.lA.length:Int)+1)=((c % (r.lA.length+1):Nat):Int):=by
      rw [hc]; exact Wk c (r.lA.length+1) (by omega)
    have hs:c % (r.lA.length+1)<r.lA.length+1:=Nat.mod_lt _ (by omega)
    have hnz:nz ((r.lA.length:Int)+1)=some ():=by
      unfold nz; rw [if_neg (by omega)]
    refine⟨_,GN n r (by omega),_,hnz,_,Ll n r (by omega) (by omega) (by omega) (by omega),?_⟩
    have hAc:=M8 n a (by omega) (by omega) (by omega)
    rcases T5 n r hF (by omega) hn2 with⟨d,hB,hBa,hBk,hBb⟩ | ⟨hB,hBn⟩
    · refine⟨_,hB,_,hAc,?_⟩
      unfold De
      simp only [beq_self_eq_true,cond_true]
      refine⟨[a,d],DE _ _ (by simp),?_⟩
      exact On r hF words hwd stop _ _ hs hk [a,d] (by simp) (fun x hx=>by
        rcases List.mem_cons.1 hx with rfl | hx
        · exact hA
        · rw [List.mem_singleton.1 hx]; exact hBa) (fun x hx=>by
        have:d=x:=Option.some.inj hx
        rw [← this]; exact hBk) _ aw n 0 (by omega) hn2 (by omega)
    · refine⟨_,hB,_,hAc,?_⟩
      unfold De
      have e9:((9:Int) == 0)=false:=rfl
      have e9':((9:Int) != 9)=false:=rfl
      simp only [e9,e9',cond_false]
      exact On r hF words hwd stop _ _ hs hk [a] (by simp) (fun x hx=>by rw [List.mem_singleton.1 hx]; exact hA) (fun x hx=>by simp at hx) _ aw n 0 (by omega) hn2 (by omega)
end Go.Proofs.YtokchpjijlebiaaGreat
