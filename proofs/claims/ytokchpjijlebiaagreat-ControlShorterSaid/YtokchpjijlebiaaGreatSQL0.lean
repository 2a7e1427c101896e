/- The plain law. -/
import Derived.Test.YtokchpjijlebiaaGreatSQP0
set_option linter.all false
namespace Go.Proofs.YtokchpjijlebiaaGreat
open Go Go.RowKit
theorem HA {x:Int} (h0 : -9223372036854775808≤x) (h1:x≤9223372036854775807):IntKind.i64.wrap x=x:=by
  simp [IntKind.wrap,IntKind.bits,IntKind.signed]; omega
theorem DQ (i:Nat) (h:i<1000000000000):IntKind.i64.wrap ((i:Int)+1)=((i+1:Nat):Int):=by
  rw [HA (by omega) (by omega)]; omega
theorem Sm {α:Type} (xs:List α) (i:Nat):Cq xs (i:Int)=xs[i]?:=rfl
theorem AT {α:Type} (xs:List α) (i:Nat) (h:i<xs.length):Cq xs (i:Int)=some xs[i]:=by rw [Sm,List.getElem?_eq_getElem h]
theorem DB {α:Type} (xs ys:List α) (h:xs.length+ys.length≤1000000000):I5 xs ys=some (xs++ys):=by
  unfold I5; rw [if_pos (by simpa using h)]
theorem Pn {α:Type} (xs:List α) (i:Nat) (y:α) (h:i<xs.length):upd xs (i:Int) y=some (xs.set i y):=by
  show(if i<xs.length then some (xs.set i y) else none)=_
  rw [if_pos h]
theorem SP {α:Type} (n:Nat) (x:α) (h:n≤1000000000):mk (n:Int) x=some (List.replicate n x):=by
  unfold mk; rw [if_pos (by omega)]; rfl
theorem AV {α:Type} {xs:List α} {i:Nat} (h:i<xs.length):xs.drop i=xs[i]::xs.drop (i+1):=List.drop_eq_getElem_cons h
theorem BG {α:Type} (xs:List α) (i:Nat):decide ((i:Int)<((xs.length:Nat):Int))=decide (i<xs.length):=by
  by_cases h:i<xs.length <;> simp [h]
theorem Fp (n:Nat) (l:List Int) (h:l.length≤1000):E6 n l=some l:=by
  unfold E6
  simp [DB [] l (by simp; omega)]
theorem Ho (r:Af) (hb:r.legs.length≤1000):∀ (n i:Nat)(acc:List Rg),r.legs.length<n+i→i≤r.legs.length→acc.length=i→Di n r acc (i:Int)=some (acc++r.legs.drop i)
  | 0,i,acc,h,hi,_=>by omega
  | n+1,i,acc,h,hi,ha=>by
    rw [Di,BG]
    by_cases hx:i<r.legs.length
    · simp only [hx,decide_true,cond_true,AT _ _ hx,Option.bind_some,HI]
      rw [DB _ _ (by simp; omega)]
      simp only [Option.bind_some]
      rw [DQ i (by omega),Ho r hb n (i+1) _ (by omega) (by omega) (by simp; omega),AV hx,List.append_assoc]
      rfl
    · have:i=r.legs.length:=by omega
      simp [this]
theorem Hp (r:Af) (hb:r.buses.length≤1000):∀ (n i:Nat)(acc:List Cu),r.buses.length<n+i→i≤r.buses.length→acc.length=i→Dj n r acc (i:Int)=some (acc++r.buses.drop i)
  | 0,i,acc,h,hi,_=>by omega
  | n+1,i,acc,h,hi,ha=>by
    rw [Dj,BG]
    by_cases hx:i<r.buses.length
    · simp only [hx,decide_true,cond_true,AT _ _ hx,Option.bind_some,HI]
      rw [DB _ _ (by simp; omega)]
      simp only [Option.bind_some]
      rw [DQ i (by omega),Hp r hb n (i+1) _ (by omega) (by omega) (by simp; omega),AV hx,List.append_assoc]
      rfl
    · have:i=r.buses.length:=by omega
      simp [this]
theorem Hq (r:Af) (hb:r.spares.length≤1000):∀ (n i:Nat)(acc:List A6),r.spares.length<n+i→i≤r.spares.length→acc.length=i→Dk n r acc (i:Int)=some (acc++r.spares.drop i)
  | 0,i,acc,h,hi,_=>by omega
  | n+1,i,acc,h,hi,ha=>by
    rw [Dk,BG]
    by_cases hx:i<r.spares.length
    · simp only [hx,decide_true,cond_true,AT _ _ hx,Option.bind_some]
      rw [DB _ _ (by simp; omega)]
      simp only [Option.bind_some]
      rw [DQ i (by omega),Hq r hb n (i+1) _ (by omega) (by omega) (by simp; omega),AV hx,List.append_assoc]
      rfl
    · have:i=r.spares.length:=by omega
      simp [this]
theorem Jq (n:Nat) (r:Af) (hn:50≤n) (h1:r.legs.length≤20) (h2:r.buses.length≤20) (h3:r.spares.length≤20):Er n r=some r:=by
  unfold Er
  have e1:=Ho r (by omega) n 0 [] (by omega) (by omega) rfl
  have e2:=Hp r (by omega) n 0 [] (by omega) (by omega) rfl
  have e3:=Hq r (by omega) n 0 [] (by omega) (by omega) rfl
  simp only [Int.natCast_zero,List.nil_append,List.drop_zero] at e1 e2 e3
  simp [HI,e1,e2,e3]
theorem Og (n:Nat) (a:Av) (h1:a.holds.length≤20) (h2:a.turns.length≤20) (h3:a.spares.length≤20):Fv n a=some a:=by
  unfold Fv
  simp [Fp n _ (show a.holds.length≤1000 by omega),Fp n _ (show a.turns.length≤1000 by omega),DB [] a.spares (by simp; omega)]
end Go.Proofs.YtokchpjijlebiaaGreat
namespace Go.Proofs.YtokchpjijlebiaaGreat
open Go Go.RowKit
def BE (st turned turn:Int) (legs:List Int):Nat→Int→Int→List (Int×Int)
  | 0,_,_=>[]
  | n+1,tm,s=>if 0≤s∧s<st then(s,tm)::(if s=turned then BE st turned turn legs n (tm+turn) (st-1-s) else match legs[s.toNat]? with
    | some d=>BE st turned turn legs n (tm+d) (s+1)
    | none=>[]) else []
def QD (turn:Int) (legs:List Int):Prop:=0≤turn∧turn≤300∧legs.length≤20∧∀ d∈legs,0≤d∧d≤300
theorem CT (n:Nat) (r:Af) (h:r.legs.length≤20):AU n r=some ((r.legs.length:Int)+1):=by
  simp only [AU]; rw [HA (by omega) (by omega)]
theorem F7 (n:Nat) (r:Af) (s:Int) (h:r.legs.length≤20):BH n r s=some (decide (0≤s∧s<(r.legs.length:Int)+1)):=by
  simp only [BH,CT n r h,AW,Option.bind_some]
  rw [HA (by omega) (by omega)]
  by_cases h1:0≤s
  · simp [h1]; omega
  · simp [h1]
theorem Jr {σ:Type} (yield_:σ→Int→Int→Option (σ×Bool)) (g:σ→Int→Int→Option σ) (hy:∀ s a b,yield_ s a b=(g s a b).map fun s'=>(s',true)) (q0:AR) (q1:Af) (q2:Ay) (hl:q1.legs.length≤20) (hq:QD q2.turn q2.legs) (hql:q2.legs.length=q1.legs.length)
    (ht:2*q0.turned+1<(q1.legs.length:Int)+1):∀ (n:Nat)(tm s:Int)(x:σ),0≤tm→tm+300*n≤1000000000→0≤s→s≤(q1.legs.length:Int)+1→(q1.legs.length:Int)+1-s<n →
    (AC n yield_ q0 q1 q2 tm s x).bind (fun o=>Ex.bind o (fun r=>some r) fun s=>some s)=(BE ((q1.legs.length:Int)+1) q0.turned q2.turn q2.legs n tm s).foldlM (fun x p=>g x p.1 p.2) x
  | 0,tm,s,x,_,_,_,h1,h2=>by omega
  | n+1,tm,s,x,h0,hb,hs,h1,h2=>by
    have IH:=Jr yield_ g hy q0 q1 q2 hl hq hql ht n
    obtain⟨t0,t1,hq1,hq2⟩:=hq
    rw [AC,BE,F7 n q1 s hl]
    by_cases hc:0≤s∧s<(q1.legs.length:Int)+1
    · simp only [hc,and_self,decide_true,Option.bind_some,cond_true,if_true,hy,List.foldlM_cons]
      cases hg:g x s tm with
      | none=>simp
      | some x' =>
        simp only [Option.map_some,Option.bind_some,cond_true,Option.bind_eq_bind,CT n q1 hl]
        by_cases hst:s=q0.turned
        · simp only [hst,beq_self_eq_true,cond_true,if_true]
          subst hst
          rw [HA (x:=tm+q2.turn) (by omega) (by omega),HA (x:=(q1.legs.length:Int)+1-1) (by omega) (by omega),HA (x:=(q1.legs.length:Int)+1-1-q0.turned) (by omega) (by omega)]
          exact IH _ _ _ (by omega) (by omega) (by omega) (by omega) (by omega)
        · simp only [beq_eq_false_iff_ne.2 hst,cond_false,hst,if_false]
          by_cases hsl:s<(q2.legs.length:Int)
          · simp only [hsl,decide_true,cond_true]
            obtain⟨k,rfl⟩:∃ k:Nat,s=k:=⟨s.toNat,by omega⟩
            have hk:k<q2.legs.length:=by omega
            have hd:=hq2 _ (List.getElem_mem hk)
            rw [AT _ _ hk]
            simp only [Option.bind_some,Int.toNat_natCast,List.getElem?_eq_getElem hk]
            rw [HA (x:=tm+q2.legs[k]) (by omega) (by omega),HA (x:=(k:Int)+1) (by omega) (by omega)]
            exact IH _ _ _ (by omega) (by omega) (by omega) (by omega) (by omega)
          · simp only [hsl,decide_false,cond_false,Option.bind_some,Ex.bind]
            rw [List.getElem?_eq_none (by omega)]
            simp
    · simp only [hc,decide_false,Option.bind_some,cond_false,Ex.bind,if_false]
      simp
theorem Kf {σ:Type} (n:Nat) (yield_:σ→Int→Int→Option (σ×Bool)) (g:σ→Int→Int→Option σ) (hy:∀ s a b,yield_ s a b=(g s a b).map fun s'=>(s',true)) (q0:AR) (q1:Af) (q2:Ay) (x:σ) (hl:q1.legs.length≤20) (hq:QD q2.turn q2.legs) (hql:q2.legs.length=q1.legs.length)
    (ht:2*q0.turned+1<(q1.legs.length:Int)+1) (h0:0≤q0.tm) (h1:q0.tm≤100000) (hn:30≤n) (hn2:n≤1000) (hs:0≤q0.stop) (hs2:q0.stop≤(q1.legs.length:Int)+1) :
    AH n yield_ x q0 q1 q2=(BE ((q1.legs.length:Int)+1) q0.turned q2.turn q2.legs n q0.tm q0.stop).foldlM (fun x p=>g x p.1 p.2) x :=
  Jr yield_ g hy q0 q1 q2 hl hq hql ht n q0.tm q0.stop x h0 (by omega) hs hs2 (by omega)
theorem E4 {st turned turn:Int} {legs:List Int} (ht:2*turned+1<st):∀ (n:Nat)(tm s:Int)(p:Int×Int),p∈BE st turned turn legs n tm s→s≤p.1∧0≤p.1∧p.1<st
  | 0,_,_,_,h=>by simp [BE] at h
  | n+1,tm,s,p,h=>by
    rw [BE] at h
    split at h
    · rename_i hc
      rcases List.mem_cons.1 h with rfl | h
      · exact⟨Int.le_refl _,hc.1,hc.2⟩
      · split at h
        · have:=E4 ht n _ _ p h
          omega
        · split at h
          · have:=E4 ht n _ _ p h
            omega
          · simp at h
    · simp at h
theorem Fq {st turned turn:Int} {legs:List Int} (ht:2*turned+1<st):∀ (n:Nat)(tm s:Int),((BE st turned turn legs n tm s).map Prod.fst).Nodup
  | 0,_,_=>by simp [BE]
  | n+1,tm,s=>by
    rw [BE]
    split
    · rename_i hc
      rw [List.map_cons,List.nodup_cons]
      split
      · rename_i hs
        refine⟨fun h=>?_,Fq ht n _ _⟩
        obtain⟨p,hp,hp2⟩:=List.mem_map.1 h
        have:=E4 ht n _ _ p hp
        simp only at hp2
        omega
      · split
        · refine⟨fun h=>?_,Fq ht n _ _⟩
          obtain⟨p,hp,hp2⟩:=List.mem_map.1 h
          have:=E4 ht n _ _ p hp
          simp only at hp2
          omega
        · simp
    · simp
def Lt (st turned turn:Int) (legs:List Int) (n:Nat) (tm s k:Int):Option Int:=BQ (BE st turned turn legs n tm s) k
theorem MJ {K α:Type} [DecidableEq K]:∀ {l:List (K×α)} {k:K} {x:α},BQ l k=some x→(k,x)∈l
  | [],_,_,h=>by simp [BQ] at h
  | p::r,k,x,h=>by
    rw [BQ] at h
    split at h
    · rename_i hp; cases h; subst hp; simp
    · exact List.mem_cons_of_mem _ (MJ h)
theorem G9 {st turned:Int} {turn turn':Int} {legs legs':List Int} (ht:2*turned+1<st) (hl:legs.length=legs'.length) (hle:∀ (k:Nat)(d d':Int),legs[k]? = some d→legs'[k]? = some d'→d≤d') (h1:turn≤turn'):∀ (n:Nat)(tm tm' s k:Int),tm≤tm' →
    (Lt st turned turn legs n tm s k=none∧Lt st turned turn' legs' n tm' s k=none)∨∃ a b,Lt st turned turn legs n tm s k=some a∧Lt st turned turn' legs' n tm' s k=some b∧a≤b
  | 0,_,_,_,_,_=>.inl ⟨rfl,rfl⟩
  | n+1,tm,tm',s,k,h=>by
    unfold Lt
    rw [BE,BE]
    by_cases hc:0≤s∧s<st
    · simp only [hc,and_self,if_true,BQ]
      by_cases hk:s=k
      · simp only [hk,if_true]; exact .inr ⟨_,_,rfl,rfl,h⟩
      · simp only [hk,if_false]
        by_cases hs:s=turned
        · simp only [hs,if_true]
          exact G9 ht hl hle h1 n _ _ _ k (by omega)
        · simp only [hs,if_false]
          cases hg:legs[s.toNat]? with
          | none =>
            have:legs'[s.toNat]? = none:=by rw [List.getElem?_eq_none_iff] at hg ⊢; omega
            simp [this,BQ]
          | some d =>
            have hlt:s.toNat<legs.length:=by
              rcases Nat.lt_or_ge s.toNat legs.length with h' | h'
              · exact h'
              · rw [List.getElem?_eq_none h'] at hg; cases hg
            obtain⟨d',hd'⟩:∃ d',legs'[s.toNat]? = some d':=⟨_,List.getElem?_eq_getElem (by omega)⟩
            simp only [hd']
            have:=hle _ _ _ hg hd'
            exact G9 ht hl hle h1 n _ _ _ k (by omega)
    · simp only [hc,if_false]; exact .inl ⟨rfl,rfl⟩
end Go.Proofs.YtokchpjijlebiaaGreat
namespace Go.Proofs.YtokchpjijlebiaaGreat
open Go Go.RowKit
def CU (r:Af) (f:Rg→Int):Aw:=⟨r.buses.map fun b=>f b.tm,r.buses.map fun _=>f r.turn,List.replicate (r.buses.length+r.spares.length) (r.legs.map f)⟩
theorem Lu (r:Af) (f:Rg→Int) (F:Rg→Option Int) (hF:∀ x,F x=some (f x)) (hb:r.legs.length≤20):∀ (n i:Nat)(acc:List Int),r.legs.length<n+i→i≤r.legs.length→acc.length=i→Bu n r (Pm.mk F) acc (i:Int)=some (acc++(r.legs.drop i).map f)
  | 0,i,acc,h,hi,_=>by omega
  | n+1,i,acc,h,hi,ha=>by
    rw [Bu,BG]
    by_cases hx:i<r.legs.length
    · simp only [hx,decide_true,cond_true,AT _ _ hx,Option.bind_some,hF]
      rw [DB _ _ (by simp; omega)]
      simp only [Option.bind_some]
      rw [DQ i (by omega),Lu r f F hF hb n (i+1) _ (by omega) (by omega) (by simp; omega),AV hx,List.append_assoc]
      rfl
    · have:i=r.legs.length:=by omega
      simp [this]
theorem Oh (n:Nat) (l:List Int) (h:l.length≤1000):Bg n l=some l:=by
  unfold Bg
  simp [DB [] l (by simp; omega)]
theorem Lv (r:Af) (f:Rg→Int) (F:Rg→Option Int) (hF:∀ x,F x=some (f x)) (hb:r.buses.length≤20) (L:List Int) (hL:L.length≤20):∀ (n i:Nat)(x y:List Int)(z:List (List Int)),r.buses.length<n+i→i≤r.buses.length→x.length=i→y.length=i→z.length=i →
    Bv n r (Pm.mk F) L x y z (i:Int)=some (L,x++(r.buses.drop i).map (fun b=>f b.tm),y++(r.buses.drop i).map (fun _=>f r.turn),z++(r.buses.drop i).map (fun _=>L))
  | 0,i,x,y,z,h,hi,_,_,_=>by omega
  | n+1,i,x,y,z,h,hi,h1,h2,h3=>by
    rw [Bv,BG]
    by_cases hx:i<r.buses.length
    · simp only [hx,decide_true,cond_true,AT _ _ hx,Option.bind_some,hF,Oh n L (by omega)]
      rw [DB _ _ (by simp; omega),DB _ _ (by simp; omega),DB _ _ (by simp; omega)]
      simp only [Option.bind_some]
      rw [DQ i (by omega),Lv r f F hF hb L hL n (i+1) _ _ _ (by omega) (by omega) (by simp; omega) (by simp; omega) (by simp; omega),AV hx,List.append_assoc,List.append_assoc,List.append_assoc]
      rfl
    · have:i=r.buses.length:=by omega
      simp [this]
theorem Lw (r:Af) (hb:r.spares.length≤20) (L:List Int) (hL:L.length≤20):∀ (n i:Nat)(z:List (List Int)),r.spares.length<n+i→i≤r.spares.length→z.length≤100+i →
    Bw n r L z (i:Int)=some (L,z++List.replicate (r.spares.length-i) L)
  | 0,i,z,h,hi,_=>by omega
  | n+1,i,z,h,hi,h3=>by
    rw [Bw,BG]
    by_cases hx:i<r.spares.length
    · simp only [hx,decide_true,cond_true,Option.bind_some,Oh n L (by omega)]
      rw [DB _ _ (by simp; omega)]
      simp only [Option.bind_some]
      rw [DQ i (by omega),Lw r hb L hL n (i+1) _ (by omega) (by omega) (by simp; omega),List.append_assoc]
      rw [show r.spares.length-i=(r.spares.length-(i+1))+1 by omega,List.replicate_succ]
      rfl
    · have:i=r.spares.length:=by omega
      simp [this]
theorem PI (n:Nat) (r:Af) (f:Rg→Int) (F:Rg→Option Int) (hF:∀ x,F x=some (f x)) (hn:50≤n) (h1:r.legs.length≤20) (h2:r.buses.length≤20) (h3:r.spares.length≤20):Ca n r (Pm.mk F)=some (CU r f):=by
  unfold Ca
  have e1:=Lu r f F hF h1 n 0 [] (by omega) (by omega) rfl
  have e2:=Lv r f F hF h2 (r.legs.map f) (by simp; omega) n 0 [] [] [] (by omega) (by omega) rfl rfl rfl
  have e3:=Lw r h3 (r.legs.map f) (by simp; omega) n 0 (r.buses.map fun _=>r.legs.map f) (by omega) (by omega) (by simp; omega)
  simp only [Int.natCast_zero,List.nil_append,List.drop_zero,Nat.sub_zero] at e1 e2 e3
  simp only [e1,Option.bind_some,e2,e3,CU,Option.some.injEq,Aw.mk.injEq,true_and]
  rw [List.map_const',List.replicate_append_replicate]
def C1 (r:Af) (a:Av) (t:Aw) (i:Nat):AR×Ay:=(⟨(r.buses[i]!).stop,t.tm[i]! + a.holds[i]! * r.unit,a.turns[i]!⟩,⟨t.legs[i]!,t.turns[i]!⟩)
def GU (r:Af) (a:Av) (t:Aw) (j:Nat):Option (AR×Ay):=if a.spares[j]! then some (⟨(r.spares[j]!).stop,(r.spares[j]!).tm,-1⟩,⟨t.legs[r.buses.length+j]!,0⟩) else none
def CF (r:Af) (a:Av) (t:Aw):List (AR×Ay):=(List.range r.buses.length).map (C1 r a t)++(List.range r.spares.length).filterMap (GU r a t)
structure MK (r:Af) (a:Av) (t:Aw):Prop where
  nb:r.buses.length≤6
  ns:r.spares.length≤4
  holds:a.holds.length=r.buses.length
  turns:a.turns.length=r.buses.length
  spares:a.spares.length=r.spares.length
  tm:t.tm.length=r.buses.length
  tt:t.turns.length=r.buses.length
  legs:t.legs.length=r.buses.length+r.spares.length
  hold:∀ x∈a.holds,0≤x∧x≤2
  unit:1≤r.unit∧r.unit≤30
  tms:∀ x∈t.tm,0≤x∧x≤10000
theorem Cc {α:Type} [Inhabited α] (l:List α) (i:Nat) (h:i<l.length):l[i]! = l[i]:=getElem!_pos l i h
theorem Kg {x u:Int} (h0:0≤x) (h1:x≤2) (h2:1≤u) (h3:u≤30):0≤x*u∧x*u≤60:=by
  have:x=0∨x=1∨x=2:=by omega
  rcases this with rfl | rfl | rfl <;> omega
theorem Kz (r:Af) (a:Av) (t:Aw) (S:MK r a t):∀ (n i:Nat)(x:List AR)(y:List Ay),r.buses.length<n+i→i≤r.buses.length→x.length=i→y.length=i →
    AX n ⟨r,a⟩ t x y (i:Int)=some (x++((List.range r.buses.length).drop i).map (fun i=>(C1 r a t i).1),y++((List.range r.buses.length).drop i).map (fun i=>(C1 r a t i).2))
  | 0,i,x,y,h,hi,_,_=>by omega
  | n+1,i,x,y,h,hi,h1,h2=>by
    rw [AX]
    simp only []
    rw [BG]
    have:=S.nb
    by_cases hx:i<r.buses.length
    · have q1:i<a.holds.length:=by rw [S.holds]; exact hx
      have q2:i<a.turns.length:=by rw [S.turns]; exact hx
      have q3:i<t.tm.length:=by rw [S.tm]; exact hx
      have q4:i<t.turns.length:=by rw [S.tt]; exact hx
      have q5:i<t.legs.length:=by rw [S.legs]; omega
      have q6:i<(List.range r.buses.length).length:=by simpa using hx
      obtain⟨b1,b2⟩:=Kg (S.hold _ (List.getElem_mem q1)).1 (S.hold _ (List.getElem_mem q1)).2 S.unit.1 S.unit.2
      have b3:=S.tms _ (List.getElem_mem q3)
      simp only [hx,decide_true,cond_true,AT _ _ hx,AT _ _ q1,AT _ _ q2,AT _ _ q3,AT _ _ q4,AT _ _ q5,Option.bind_some]
      rw [DB _ _ (by simp; omega),DB _ _ (by simp; omega)]
      simp only [Option.bind_some]
      rw [DQ i (by omega),Kz r a t S n (i+1) _ _ (by omega) (by omega) (by simp; omega) (by simp; omega),AV q6,List.append_assoc,List.append_assoc]
      rw [HA (x:=a.holds[i]*r.unit) (by omega) (by omega),HA (by omega) (by omega)]
      simp only [List.getElem_range,List.map_cons,C1,Cc _ _ hx,Cc _ _ q1,Cc _ _ q2,Cc _ _ q3,Cc _ _ q4,Cc _ _ q5]
      rfl
    · have:i=r.buses.length:=by omega
      simp [this]
theorem HB (r:Af) (a:Av) (t:Aw) (S:MK r a t):∀ (n i:Nat)(x:List AR)(y:List Ay),r.spares.length<n+i→i≤r.spares.length→x.length≤100+i→y.length≤100+i →
    AN n ⟨r,a⟩ t x y (i:Int)=some (x++(((List.range r.spares.length).drop i).filterMap (GU r a t)).map Prod.fst,y++(((List.range r.spares.length).drop i).filterMap (GU r a t)).map Prod.snd)
  | 0,i,x,y,h,hi,_,_=>by omega
  | n+1,i,x,y,h,hi,h1,h2=>by
    rw [AN]
    simp only []
    rw [BG]
    have:=S.ns
    have:=S.nb
    by_cases hx:i<r.spares.length
    · have q1:i<a.spares.length:=by rw [S.spares]; exact hx
      have q5:r.buses.length+i<t.legs.length:=by rw [S.legs]; omega
      have q6:i<(List.range r.spares.length).length:=by simpa using hx
      simp only [hx,decide_true,cond_true,AT _ _ hx,AT _ _ q1,Option.bind_some]
      rw [AV q6]
      simp only [List.getElem_range,List.filterMap_cons,GU,Cc _ _ hx,Cc _ _ q1,Cc _ _ q5]
      cases hs:a.spares[i] with
      | true =>
        simp only [cond_true,if_true]
        rw [DB _ _ (by simp; omega)]
        simp only [Option.bind_some]
        rw [HA (x:=((r.buses.length:Nat):Int)+(i:Int)) (by omega) (by omega),show((r.buses.length:Nat):Int)+(i:Int)=((r.buses.length+i:Nat):Int) by omega,AT _ _ q5]
        simp only [Option.bind_some]
        rw [DB _ _ (by simp; omega)]
        simp only [Option.bind_some]
        rw [DQ i (by omega),HB r a t S n (i+1) _ _ (by omega) (by omega) (by simp; omega) (by simp; omega),List.append_assoc,List.append_assoc]
        rfl
      | false =>
        simp only [cond_false]
        rw [DQ i (by omega),HB r a t S n (i+1) _ _ (by omega) (by omega) (by omega) (by omega)]
        rfl
    · have:i=r.spares.length:=by omega
      have hd:(List.range r.spares.length).drop r.spares.length=[]:=List.drop_eq_nil_of_le (by simp)
      simp [this,hd]
theorem Lx (n:Nat) (r:Af) (a:Av) (t:Aw) (S:MK r a t) (hn:50≤n):B1 n ⟨r,a⟩ t=some ((CF r a t).map Prod.fst,(CF r a t).map Prod.snd):=by
  have:=S.nb
  have:=S.ns
  have e1:=Kz r a t S n 0 [] [] (by omega) (by omega) rfl rfl
  have e2:=HB r a t S n 0 ((List.range r.buses.length).map fun i=>(C1 r a t i).1) ((List.range r.buses.length).map fun i=>(C1 r a t i).2) (by omega) (by omega) (by simp; omega) (by simp; omega)
  simp only [Int.natCast_zero,List.nil_append,List.drop_zero] at e1 e2
  unfold B1
  simp only [e1,Option.bind_some,e2,CF,List.map_append,List.map_map]
  rfl
end Go.Proofs.YtokchpjijlebiaaGreat
namespace Go.Proofs.YtokchpjijlebiaaGreat
open Go Go.RowKit
def K0 (ms:List (List (Int×Rg))) (f:Int→List (Int×Rg)→List (Int×Rg)) (pl:List (Int×Int)):List (List (Int×Rg)):=pl.foldl (fun ms p=>ms.modify p.1.toNat (f p.2)) ms
theorem FH (f:Int→List (Int×Rg)→List (Int×Rg)):∀ (pl:List (Int×Int))(ms:List (List (Int×Rg))),(K0 ms f pl).length=ms.length
  | [],_=>rfl
  | p::r,ms=>by
    show(K0 (ms.modify p.1.toNat (f p.2)) f r).length=_
    rw [FH f r]; simp
theorem Kh (f:Int→List (Int×Rg)→List (Int×Rg)):∀ (pl:List (Int×Int))(ms:List (List (Int×Rg)))(k:Nat),(pl.map Prod.fst).Nodup→(∀ p∈pl,0≤p.1) →
    (K0 ms f pl)[k]? = (ms[k]?).map fun m=>match BQ pl (k:Int) with | some t=>f t m | none=>m
  | [],ms,k,_,_=>by simp [K0,BQ]
  | p::r,ms,k,hn,h0=>by
    show(K0 (ms.modify p.1.toNat (f p.2)) f r)[k]? = _
    rw [List.map_cons,List.nodup_cons] at hn
    rw [Kh f r _ k hn.2 (fun q hq=>h0 q (List.mem_cons_of_mem _ hq)),List.getElem?_modify,BQ]
    have hp:=h0 p (by simp)
    by_cases hk:p.1=(k:Int)
    · have hr:BQ r (k:Int)=none:=Je fun q hq hqk=>hn.1 (by rw [hk,← hqk]; exact List.mem_map_of_mem hq)
      have:p.1.toNat=k:=by omega
      simp only [this,if_true,if_pos hk,hr]
      cases ms[k]? <;> rfl
    · have:p.1.toNat≠k:=by omega
      simp only [this,hk,if_false]
      cases ms[k]? <;> rfl
theorem Ki (g:List (Option (List (Int×Rg)))→Int→Int→Option (List (Option (List (Int×Rg))))) (f:Int→List (Int×Rg)→List (Int×Rg)) (st:Nat)
    (hg:∀ (ms:List (List (Int×Rg)))(s:Nat)(t:Int),ms.length=st→s<st→g (ms.map some) (s:Int) t=some ((ms.modify s (f t)).map some)):∀ (pl:List (Int×Int))(ms:List (List (Int×Rg))),ms.length=st→(∀ p∈pl,0≤p.1∧p.1<(st:Int)) →
    pl.foldlM (fun x p=>g x p.1 p.2) (ms.map some)=some ((K0 ms f pl).map some)
  | [],ms,_,_=>rfl
  | p::r,ms,hm,hp=>by
    have h1:=hp p (by simp)
    rw [List.foldlM_cons]
    have:g (ms.map some) p.1 p.2=some ((ms.modify p.1.toNat (f p.2)).map some):=by
      have:=hg ms p.1.toNat p.2 hm (by omega)
      rwa [show((p.1.toNat:Nat):Int)=p.1 by omega] at this
    rw [this]
    exact Ki g f st hg r _ (by simpa using hm) fun q hq=>hp q (List.mem_cons_of_mem _ hq)
theorem Hr {α:Type} (f:α→α):∀ (ms:List α)(s:Nat),(h:s<ms.length)→(ms.map some).set s (some (f ms[s]))=(ms.modify s f).map some:=by
  intro ms s h
  apply List.ext_getElem?
  intro k
  rw [List.getElem?_map,List.getElem?_modify,List.getElem?_set]
  by_cases hk:s=k
  · subst hk; simp [h]
  · simp [hk]
def DC (st:Int) (n:Nat) (p:(AR×Ay)×(AR×Ay)) (k:Int):Option Rg:=match BQ (BE st p.1.1.turned p.1.2.turn p.1.2.legs n p.1.1.tm p.1.1.stop) k,BQ (BE st p.2.1.turned p.2.2.turn p.2.2.legs n p.2.1.tm p.2.1.stop) k with
  | some a,some b=>some ⟨a,b⟩
  | _,_=>none
def SB (st:Int) (n:Nat) (p:(AR×Ay)×(AR×Ay)):Prop:=∀ k,BQ (BE st p.1.1.turned p.1.2.turn p.1.2.legs n p.1.1.tm p.1.1.stop) k=none↔BQ (BE st p.2.1.turned p.2.2.turn p.2.2.legs n p.2.1.tm p.2.1.stop) k=none
structure EU (r:Af) (p:AR×Ay):Prop where
  q:QD p.2.turn p.2.legs
  len:p.2.legs.length=r.legs.length
  t:2*p.1.turned+1<(r.legs.length:Int)+1
  tm0:0≤p.1.tm
  tm1:p.1.tm≤100000
  s0:0≤p.1.stop
  s1:p.1.stop≤(r.legs.length:Int)+1
theorem Oi {K α:Type} [DecidableEq K]:∀ {l:List (K×α)} {k:K} (x:α),(∀ p∈l,p.1≠k)→EM l k x=l++[(k,x)]
  | [],_,_,_=>rfl
  | p::r,k,x,h=>by
    rw [EM,if_neg (h p (by simp)),Oi x fun q hq=>h q (List.mem_cons_of_mem _ hq)]
    rfl
theorem Oj {K α:Type} [DecidableEq K]:∀ {l:List (K×α)} {k:K} (x y:α),(∀ p∈l,p.1≠k)→EM (l++[(k,x)]) k y=l++[(k,y)]
  | [],k,x,y,_=>by simp [EM]
  | p::r,k,x,y,h=>by
    rw [List.cons_append,EM,if_neg (h p (by simp)),Oj x y fun q hq=>h q (List.mem_cons_of_mem _ hq)]
    rfl
theorem Ly {K α:Type} [DecidableEq K]:∀ {l:List (K×α)} {k:K} (x:α),(∀ p∈l,p.1≠k)→BQ (l++[(k,x)]) k=some x
  | [],k,x,_=>by simp [BQ]
  | p::r,k,x,h=>by
    rw [List.cons_append,BQ,if_neg (h p (by simp)),Ly x fun q hq=>h q (List.mem_cons_of_mem _ hq)]
def g1 (i:Int) (s:List (Option (List (Int×Rg)))) (a b:Int):Option (List (Option (List (Int×Rg)))):=(Cq s a).bind fun x66=>x66.bind fun m=>(upd s a (some (EM m i (Rg.mk b b)))).bind fun u=>some u
def g2 (i:Int) (s:List (Option (List (Int×Rg)))) (a b:Int):Option (List (Option (List (Int×Rg)))):=(Cq s a).bind fun x87=>(Cq s a).bind fun x92=>x92.bind fun m_514=>x87.bind fun m_527=>(upd s a (some (EM m_527 i (Rg.mk (FE m_514 i ((Rg.mk 0 0):Rg)).1.lo b)))).bind fun u=>some u
theorem SD (i:Int) (st:Nat) (ms:List (List (Int×Rg))) (s:Nat) (t:Int) (h1:ms.length=st) (h2:s<st):g1 i (ms.map some) (s:Int) t=some ((ms.modify s (fun m=>EM m i (Rg.mk t t))).map some):=by
  have hs:s<ms.length:=by omega
  unfold g1
  rw [AT _ s (by simpa using hs)]
  simp only [Option.bind_some,List.getElem_map]
  rw [Pn _ s _ (by simpa using hs)]
  simp only [Option.bind_some]
  rw [Hr (fun m=>EM m i (Rg.mk t t)) ms s hs]
theorem SE (i:Int) (st:Nat) (ms:List (List (Int×Rg))) (s:Nat) (t:Int) (h1:ms.length=st) (h2:s<st):g2 i (ms.map some) (s:Int) t=some ((ms.modify s (fun m=>EM m i (Rg.mk (FE m i ((Rg.mk 0 0):Rg)).1.lo t))).map some):=by
  have hs:s<ms.length:=by omega
  unfold g2
  rw [AT _ s (by simpa using hs)]
  simp only [Option.bind_some,List.getElem_map]
  rw [Pn _ s _ (by simpa using hs)]
  simp only [Option.bind_some]
  rw [Hr (fun m=>EM m i (Rg.mk (FE m i ((Rg.mk 0 0):Rg)).1.lo t)) ms s hs]
theorem Gz {α:Type} (x:Option α):(x.bind fun s1=>some (s1,true))=x.map fun s'=>(s',true):=by cases x <;> rfl
def CV (st:Int) (n:Nat) (k:Int):Nat→List ((AR×Ay)×(AR×Ay))→List (Int×Rg)
  | _,[]=>[]
  | i,p::r=>match DC st n p k with
    | some x=>((i:Int),x)::CV st n k (i+1) r
    | none=>CV st n k (i+1) r
theorem K1 (w:AE) (lo hi:List (AR×Ay)) (hl:w.route.legs.length≤20) (hlen:lo.length=hi.length) (h1:∀ p∈lo,EU w.route p) (h2:∀ p∈hi,EU w.route p) (N:Nat) (hN:60≤N) (hN2:N≤1000) (h20:lo.length≤20)
    (hA:∀ n,30≤n→n≤1000→∀ p∈lo.zip hi,SB ((w.route.legs.length:Int)+1) n p∧∀ k,DC ((w.route.legs.length:Int)+1) n p k=DC ((w.route.legs.length:Int)+1) 40 p k):∀ (n i:Nat)(ms:List (List (Int×Rg))),lo.length+30<n+i→n≤1000→i≤lo.length→ms.length=w.route.legs.length+1→(∀ m∈ms,∀ p∈m,p.1<(i:Int)) →
    AZ n w (lo.map Prod.fst,lo.map Prod.snd) (hi.map Prod.fst,hi.map Prod.snd) (ms.map some) (i:Int)=some (((List.range (w.route.legs.length+1)).map fun(k:Nat)=>(ms[k]?.getD [])++CV ((w.route.legs.length:Int)+1) 40 k i ((lo.zip hi).drop i)).map some)
  | 0,i,ms,h,_,hi',_,_=>by omega
  | n+1,i,ms,h,hn,hi',hm,hkeys=>by
    rw [AZ]
    simp only []
    rw [BG,List.length_map]
    by_cases hx:i<lo.length
    · have hxh:i<hi.length:=by omega
      have hz:i<(lo.zip hi).length:=by simp; omega
      have o1:=h1 _ (List.getElem_mem hx)
      have o2:=h2 _ (List.getElem_mem hxh)
      have hmem:(lo[i],hi[i])∈lo.zip hi:=by
        have:=List.getElem_mem hz
        rwa [List.getElem_zip] at this
      obtain⟨hAl,hSp⟩:=hA n (by omega) (by omega) _ hmem
      simp only [hx,decide_true,cond_true]
      rw [AT _ i (by simpa using hx),AT _ i (by simpa using hx),AT _ i (by simpa using hxh),AT _ i (by simpa using hxh)]
      simp only [Option.bind_some,List.getElem_map,B2]
      show((AH n (fun s a b=>(g1 i s a b).bind fun s1=>some (s1,true)) _ _ _ _).bind _)=_
      rw [Kf n _ (g1 i) (fun s a b=>Gz (g1 i s a b)) _ _ _ _ hl o1.q o1.len o1.t o1.tm0 o1.tm1 (by omega) (by omega) o1.s0 o1.s1]
      rw [Ki (g1 i) _ (w.route.legs.length+1) (SD i _) _ _ hm (fun p hp=>by
          have:=E4 o1.t n _ _ p hp
          constructor <;> omega)]
      simp only [Option.bind_some]
      show((AH n (fun s a b=>(g2 i s a b).bind fun s1=>some (s1,true)) _ _ _ _).bind _)=_
      rw [Kf n _ (g2 i) (fun s a b=>Gz (g2 i s a b)) _ _ _ _ hl o2.q o2.len o2.t o2.tm0 o2.tm1 (by omega) (by omega) o2.s0 o2.s1]
      rw [Ki (g2 i) _ (w.route.legs.length+1) (SE i _) _ _ (by rw [FH]; exact hm) (fun p hp=>by
          have:=E4 o2.t n _ _ p hp
          constructor <;> omega)]
      simp only [Option.bind_some]
      rw [DQ i (by omega)]
      -- each stop's map
      have hget:∀ k:Nat,(K0 (K0 ms (fun t m=>EM m (i:Int) (Rg.mk t t)) (BE ((w.route.legs.length:Int)+1) lo[i].1.turned lo[i].2.turn lo[i].2.legs n lo[i].1.tm lo[i].1.stop)) (fun t m=>EM m (i:Int) (Rg.mk (FE m (i:Int) ((Rg.mk 0 0):Rg)).1.lo t)) (BE ((w.route.legs.length:Int)+1) hi[i].1.turned hi[i].2.turn hi[i].2.legs n hi[i].1.tm hi[i].1.stop))[k]? = (ms[k]?).map fun m=>m++(match DC ((w.route.legs.length:Int)+1) 40 (lo[i],hi[i]) k with | some x=>[((i:Int),x)] | none=>[]):=fun k=>by
        rw [Kh _ _ _ k (Fq o2.t n _ _) (fun p hp=>(E4 o2.t n _ _ p hp).2.1),Kh _ _ _ k (Fq o1.t n _ _) (fun p hp=>(E4 o1.t n _ _ p hp).2.1),← hSp]
        cases hmk:ms[k]? with
        | none=>rfl
        | some m =>
          have hk:∀ p∈m,p.1≠(i:Int):=fun p hp=>by
            have:=hkeys m (List.mem_of_getElem? hmk) p hp
            omega
          have hal:=hAl k
          simp only [] at hal
          simp only [Option.map_some,DC]
          cases hlo:BQ (BE ((w.route.legs.length:Int)+1) lo[i].1.turned lo[i].2.turn lo[i].2.legs n lo[i].1.tm lo[i].1.stop) (k:Int) with
          | none =>
            rw [hal.1 hlo]
            simp
          | some a =>
            cases hhi:BQ (BE ((w.route.legs.length:Int)+1) hi[i].1.turned hi[i].2.turn hi[i].2.legs n hi[i].1.tm hi[i].1.stop) (k:Int) with
            | none=>rw [hal.2 hhi] at hlo; cases hlo
            | some b =>
              simp only [Oi _ hk,Oj _ _ hk,FE,Ly _ hk]
      rw [K1 w lo hi hl hlen h1 h2 N hN hN2 h20 hA n (i+1) _ (by omega) (by omega) (by omega) (by rw [FH,FH]; exact hm) (fun m hm' p hp=>by
        obtain⟨k,hk⟩:=List.mem_iff_getElem?.1 hm'
        rw [hget k] at hk
        obtain⟨m0,h3,rfl⟩:=Option.map_eq_some_iff.1 hk
        rcases List.mem_append.1 hp with hp | hp
        · have:=hkeys m0 (List.mem_of_getElem? h3) p hp
          omega
        · split at hp
          · simp at hp; subst hp; simp only; omega
          · simp at hp)]
      congr 2
      apply List.map_congr_left
      intro k hk
      rw [List.mem_range] at hk
      rw [hget k,AV hz,List.getElem_zip]
      have hkm:k<ms.length:=by omega
      rw [List.getElem?_eq_getElem hkm]
      simp only [Option.map_some,Option.getD_some,CV]
      cases DC ((w.route.legs.length:Int)+1) 40 (lo[i],hi[i]) (k:Int) with
      | none=>simp
      | some x=>simp
    · have hxe:i=lo.length:=by omega
      have hd:(lo.zip hi).drop i=[]:=List.drop_eq_nil_of_le (by simp; omega)
      simp only [hx,decide_false,cond_false,hd,CV,List.append_nil,Option.some.injEq]
      congr 1
      apply List.ext_getElem?
      intro k
      rw [List.getElem?_map]
      by_cases hk:k<w.route.legs.length+1
      · rw [List.getElem?_range hk,List.getElem?_eq_getElem (by omega)]
        simp
        rw [List.getElem?_eq_getElem (by omega)]
        rfl
      · rw [List.getElem?_eq_none (by omega),List.getElem?_eq_none (by simp; omega)]
        rfl
end Go.Proofs.YtokchpjijlebiaaGreat
namespace Go.Proofs.YtokchpjijlebiaaGreat
open Go Go.RowKit
def D3 (x:Rg) (m:Int):Bool:=decide (0≤x.lo∧x.lo≤x.hi∧x.hi≤m)
def Js (r:Af) (b:Cu):Bool:=decide (0≤b.stop∧b.stop≤(r.legs.length:Int)) && D3 b.tm 2000
def FI (r:Af) (s:A6):Bool:=decide (0≤s.stop∧s.stop≤(r.legs.length:Int)) && decide (0≤s.tm∧s.tm≤2000)
def GV (r:Af):Bool:=decide (r.legs.length % 2=1∧r.legs.length≤7) && D3 r.turn 300 && decide (1≤r.unit∧r.unit≤30) && decide (0≤r.gap∧r.gap≤2000) && decide (0≤r.fr∧r.fr≤r.to_∧r.to_≤2000) && r.legs.all (fun x=>D3 x 300) && r.buses.all (Js r) && r.spares.all (FI r)
def C2 (r:Af):Int:=if r.buses.length>4∨r.spares.length>2 then 3 else if GV r then 0 else 1
theorem GA (n:Nat) (x a b:Int):EY n x a b=some (decide (a≤x∧x≤b)):=by
  unfold EY
  by_cases h:a≤x <;> simp [h]
theorem FN (n:Nat) (x a b:Int):AW n x a b=some (decide (a≤x∧x≤b)):=by
  unfold AW
  by_cases h:a≤x <;> simp [h]
theorem HC (n:Nat) (x:Rg) (m:Int):FV n x m=some (D3 x m):=by
  unfold FV D3
  rw [GA]
  by_cases h:0≤x.lo∧x.lo≤x.hi
  · simp [h]
  · simp only [h,decide_false,Option.bind_some,cond_false,Option.some.injEq]
    symm; rw [decide_eq_false_iff_not]; omega
theorem PJ (n:Nat) (x:Rg) (m:Int):BX n x m=some (D3 x m):=by
  unfold BX D3
  by_cases h:0≤x.lo <;> by_cases h2:x.lo≤x.hi <;> simp [h,h2]
theorem Ok (n:Nat) (x:Rg):Bp n x=some (D3 x 300):=by
  unfold Bp; rw [PJ]; rfl
theorem ML (n:Nat) (x:Int):Cf n x=some (decide (0≤x∧x≤2000)):=by
  unfold Cf; rw [FN]; rfl
theorem Jt (n:Nat) (r:Af) (h:r.legs.length≤20):FO n r=some ((r.legs.length:Int)+1):=by
  unfold FO; rw [HA (by omega) (by omega)]
theorem K2 (r:Af) (hb:r.legs.length≤20):∀ (n i:Nat),r.legs.length<n+i→i≤r.legs.length→Df n r (i:Int)=some (if (r.legs.drop i).all (fun x=>D3 x 300) then Ex.go () else Ex.ret 1)
  | 0,i,h,hi=>by omega
  | n+1,i,h,hi=>by
    rw [Df,BG]
    by_cases hx:i<r.legs.length
    · simp only [hx,decide_true,cond_true,AT _ _ hx,Option.bind_some,HC]
      rw [AV hx,List.all_cons]
      cases D3 r.legs[i] 300 with
      | true=>simp only [Bool.not_true,cond_false,Bool.true_and]; rw [DQ i (by omega),K2 r hb n (i+1) (by omega) (by omega)]
      | false=>rfl
    · have:i=r.legs.length:=by omega
      simp [this]
theorem K3 (r:Af) (hl:r.legs.length≤20) (hb:r.buses.length≤20):∀ (n i:Nat),r.buses.length<n+i→i≤r.buses.length→Dg n r (i:Int)=some (if (r.buses.drop i).all (Js r) then Ex.go () else Ex.ret 1)
  | 0,i,h,hi=>by omega
  | n+1,i,h,hi=>by
    rw [Dg,BG]
    by_cases hx:i<r.buses.length
    · simp only [hx,decide_true,cond_true,AT _ _ hx,Option.bind_some,HC,Jt n r hl,GA]
      rw [AV hx,List.all_cons,HA (x:=(r.legs.length:Int)+1-1) (by omega) (by omega),show(r.legs.length:Int)+1-1=r.legs.length by omega]
      unfold Js
      by_cases h1:0≤(r.buses[i]).stop∧(r.buses[i]).stop≤(r.legs.length:Int)
      · simp only [h1,and_self,decide_true,Bool.not_true,cond_false,Bool.true_and]
        cases D3 (r.buses[i]).tm 2000 with
        | true =>
          simp only [Bool.not_true,cond_false,Bool.true_and]; rw [DQ i (by omega),K3 r hl hb n (i+1) (by omega) (by omega)]
          rfl
        | false=>rfl
      · simp only [h1,decide_false,Bool.not_false,cond_true,Bool.false_and]
        rfl
    · have:i=r.buses.length:=by omega
      simp [this]
theorem K4 (r:Af) (hl:r.legs.length≤20) (hb:r.spares.length≤20):∀ (n i:Nat),r.spares.length<n+i→i≤r.spares.length→Dh n r (i:Int)=some (if (r.spares.drop i).all (FI r) then Ex.go () else Ex.ret 1)
  | 0,i,h,hi=>by omega
  | n+1,i,h,hi=>by
    rw [Dh,BG]
    by_cases hx:i<r.spares.length
    · simp only [hx,decide_true,cond_true,AT _ _ hx,Option.bind_some,Jt n r hl,GA]
      rw [AV hx,List.all_cons,HA (x:=(r.legs.length:Int)+1-1) (by omega) (by omega),show(r.legs.length:Int)+1-1=r.legs.length by omega]
      unfold FI
      by_cases h1:0≤(r.spares[i]).stop∧(r.spares[i]).stop≤(r.legs.length:Int)
      · simp only [h1,and_self,decide_true,Bool.not_true,cond_false,Bool.true_and]
        by_cases h2:0≤(r.spares[i]).tm∧(r.spares[i]).tm≤2000
        · simp only [h2,and_self,decide_true,Bool.not_true,cond_false,Bool.true_and]; rw [DQ i (by omega),K4 r hl hb n (i+1) (by omega) (by omega)]
          rfl
        · simp only [h2,decide_false,Bool.not_false,cond_true,Bool.false_and]
          rfl
      · simp only [h1,decide_false,Bool.not_false,cond_true,Bool.false_and]
        rfl
    · have:i=r.spares.length:=by omega
      simp [this]
theorem RY (k:Nat) (h:k≤1000):Int.tmod ((k:Nat):Int) 2=((k % 2:Nat):Int):=rfl
theorem Ny (n:Nat) (r:Af) (hn:50≤n) (h1:r.legs.length≤20) (h2:r.buses.length≤20) (h3:r.spares.length≤20):GE n r=some (C2 r):=by
  unfold GE C2
  have e1:=K2 r h1 n 0 (by omega) (by omega)
  have e2:=K3 r h1 h2 n 0 (by omega) (by omega)
  have e3:=K4 r h1 h3 n 0 (by omega) (by omega)
  simp only [Int.natCast_zero,List.drop_zero] at e1 e2 e3
  simp only [HC,GA,e1,e2,e3,Option.bind_some,RY _ (show r.legs.length≤1000 by omega)]
  by_cases a1:r.buses.length>4
  · have a1':decide (((r.buses.length:Nat):Int)>4)=true:=by simp; omega
    simp only [a1',a1,cond_true,Option.bind_some,true_or,if_true]
  have a1':decide (((r.buses.length:Nat):Int)>4)=false:=by simp; omega
  by_cases a2:r.spares.length>2
  · have a2':decide (((r.spares.length:Nat):Int)>2)=true:=by simp; omega
    simp only [a1',a2',a2,cond_true,cond_false,Option.bind_some,or_true,if_true]
  have a2':decide (((r.spares.length:Nat):Int)>2)=false:=by simp; omega
  simp only [a1',a2',cond_false,Option.bind_some,a1,a2,or_self,if_false]
  unfold GV
  by_cases b1 : ¬ (r.legs.length % 2=1)
  · have:r.legs.length % 2=0:=by omega
    simp [this]
  replace b1:=Decidable.not_not.1 b1
  have b1':(((r.legs.length % 2:Nat):Int) == 0)=false:=by rw [b1]; rfl
  by_cases b2 : ¬ (r.legs.length≤7)
  · have b2':decide (((r.legs.length:Nat):Int)>7)=true:=by simp; omega
    simp only [b1',b2',b2,and_false,decide_false,Bool.false_and,cond_false,cond_true,Option.bind_some]
    rfl
  replace b2:=Decidable.not_not.1 b2
  have b2':decide (((r.legs.length:Nat):Int)>7)=false:=by simp; omega
  simp only [b1',b2',cond_false,b1,b2,and_self,decide_true,Bool.true_and]
  cases D3 r.turn 300
  · simp
  simp only [Bool.not_true,cond_false,Bool.true_and]
  by_cases b3 : ¬ (1≤r.unit∧r.unit≤30)
  · simp [b3]
  replace b3:=Decidable.not_not.1 b3
  simp only [b3,and_self,decide_true,Bool.not_true,cond_false,Option.bind_some,Bool.true_and]
  by_cases b4 : ¬ (0≤r.gap∧r.gap≤2000)
  · simp [b4]
  replace b4:=Decidable.not_not.1 b4
  simp only [b4,and_self,decide_true,Bool.not_true,cond_false,Option.bind_some,Bool.true_and]
  by_cases b5 : ¬ (0≤r.fr∧r.fr≤r.to_)
  · simp only [b5,decide_false,Bool.not_false,cond_true,Option.bind_some]
    have : ¬ (0≤r.fr∧r.fr≤r.to_∧r.to_≤2000):=fun h=>b5 ⟨h.1,h.2.1⟩
    simp [this]
  replace b5:=Decidable.not_not.1 b5
  simp only [b5,and_self,decide_true,Bool.not_true,cond_false,Option.bind_some]
  by_cases b6 : ¬ (r.to_≤2000)
  · have : ¬ (0≤r.fr∧r.fr≤r.to_∧r.to_≤2000):=fun h=>b6 h.2.2
    have b6':decide (r.to_>2000)=true:=by simp; omega
    simp only [b6,b6',and_false,decide_false,Bool.false_and,cond_true,Option.bind_some]
    rfl
  replace b6:=Decidable.not_not.1 b6
  have b6':decide (r.to_>2000)=false:=by simp; omega
  simp only [b6',b6,b5,and_self,decide_true,cond_false,Bool.true_and]
  cases r.legs.all (fun x=>D3 x 300)
  · rfl
  cases r.buses.all (Js r)
  · rfl
  cases r.spares.all (FI r)
  · rfl
  rfl
theorem Hs (l:List Rg) (F:Rg→Option Bool) (p:Rg→Bool) (hF:∀ x,F x=some (p x)) (hb:l.length≤20):∀ (n i:Nat),l.length<n+i→i≤l.length→∃ e,An n l F (i:Int)=some e∧((∃ k:Nat,e=Ex.ret (k:Int))∧(l.drop i).any p=true∨e=Ex.go ()∧(l.drop i).any p=false)
  | 0,i,h,hi=>by omega
  | n+1,i,h,hi=>by
    rw [An,BG]
    by_cases hx:i<l.length
    · simp only [hx,decide_true,cond_true,AT _ _ hx,Option.bind_some,hF]
      rw [AV hx,List.any_cons]
      cases p l[i] with
      | true=>exact⟨_,rfl,.inl ⟨⟨i,rfl⟩,rfl⟩⟩
      | false=>simp only [cond_false,Bool.false_or]; rw [DQ i (by omega)]; exact Hs l F p hF hb n (i+1) (by omega) (by omega)
    · have:i=l.length:=by omega
      exact⟨Ex.go (),by simp [this],.inr ⟨rfl,by simp [this]⟩⟩
theorem Qq (n:Nat) (hn:50≤n) (l:List Rg) (F:Rg→Option Bool) (p:Rg→Bool) (hF:∀ x,F x=some (p x)) (hb:l.length≤20):B5 n l F=some (l.all p):=by
  unfold B5 A3 A8
  obtain⟨e,he,h⟩:=Hs l (fun y0=>AF n y0 F) (fun x=>!p x) (fun x=>by simp [AF,hF]) hb n 0 (by omega) (by omega)
  simp only [Int.natCast_zero,List.drop_zero] at he h
  rw [he]
  have hall:l.all p=!(l.any fun x=>!p x):=by rw [List.not_any_eq_all_not]; simp
  rcases h with⟨⟨k,rfl⟩,h⟩ | ⟨rfl,h⟩
  · rw [hall,h]
    simp [Ex.bind]
  · rw [hall,h]
    simp [Ex.bind]
theorem GB (l:List Cu) (F:Cu→Option Bool) (p:Cu→Bool) (hF:∀ x,F x=some (p x)) (hb:l.length≤20):∀ (n i:Nat),l.length<n+i→i≤l.length→∃ e,Ar n l F (i:Int)=some e∧((∃ k:Nat,e=Ex.ret (k:Int))∧(l.drop i).any p=true∨e=Ex.go ()∧(l.drop i).any p=false)
  | 0,i,h,hi=>by omega
  | n+1,i,h,hi=>by
    rw [Ar,BG]
    by_cases hx:i<l.length
    · simp only [hx,decide_true,cond_true,AT _ _ hx,Option.bind_some,hF]
      rw [AV hx,List.any_cons]
      cases p l[i] with
      | true=>exact⟨_,rfl,.inl ⟨⟨i,rfl⟩,rfl⟩⟩
      | false=>simp only [cond_false,Bool.false_or]; rw [DQ i (by omega)]; exact GB l F p hF hb n (i+1) (by omega) (by omega)
    · have:i=l.length:=by omega
      exact⟨Ex.go (),by simp [this],.inr ⟨rfl,by simp [this]⟩⟩
theorem Po (n:Nat) (hn:50≤n) (l:List Cu) (F:Cu→Option Bool) (p:Cu→Bool) (hF:∀ x,F x=some (p x)) (hb:l.length≤20):BJ n l F=some (l.all p):=by
  unfold BJ AD AM
  obtain⟨e,he,h⟩:=GB l (fun y0=>AP n y0 F) (fun x=>!p x) (fun x=>by simp [AP,hF]) hb n 0 (by omega) (by omega)
  simp only [Int.natCast_zero,List.drop_zero] at he h
  rw [he]
  have hall:l.all p=!(l.any fun x=>!p x):=by rw [List.not_any_eq_all_not]; simp
  rcases h with⟨⟨k,rfl⟩,h⟩ | ⟨rfl,h⟩
  · rw [hall,h]
    simp [Ex.bind]
  · rw [hall,h]
    simp [Ex.bind]
theorem FR (l:List A6) (F:A6→Option Bool) (p:A6→Bool) (hF:∀ x,F x=some (p x)) (hb:l.length≤20):∀ (n i:Nat),l.length<n+i→i≤l.length→∃ e,Ao n l F (i:Int)=some e∧((∃ k:Nat,e=Ex.ret (k:Int))∧(l.drop i).any p=true∨e=Ex.go ()∧(l.drop i).any p=false)
  | 0,i,h,hi=>by omega
  | n+1,i,h,hi=>by
    rw [Ao,BG]
    by_cases hx:i<l.length
    · simp only [hx,decide_true,cond_true,AT _ _ hx,Option.bind_some,hF]
      rw [AV hx,List.any_cons]
      cases p l[i] with
      | true=>exact⟨_,rfl,.inl ⟨⟨i,rfl⟩,rfl⟩⟩
      | false=>simp only [cond_false,Bool.false_or]; rw [DQ i (by omega)]; exact FR l F p hF hb n (i+1) (by omega) (by omega)
    · have:i=l.length:=by omega
      exact⟨Ex.go (),by simp [this],.inr ⟨rfl,by simp [this]⟩⟩
theorem Nz (n:Nat) (hn:50≤n) (l:List A6) (F:A6→Option Bool) (p:A6→Bool) (hF:∀ x,F x=some (p x)) (hb:l.length≤20):B6 n l F=some (l.all p):=by
  unfold B6 A4 A9
  obtain⟨e,he,h⟩:=FR l (fun y0=>AG n y0 F) (fun x=>!p x) (fun x=>by simp [AG,hF]) hb n 0 (by omega) (by omega)
  simp only [Int.natCast_zero,List.drop_zero] at he h
  rw [he]
  have hall:l.all p=!(l.any fun x=>!p x):=by rw [List.not_any_eq_all_not]; simp
  rcases h with⟨⟨k,rfl⟩,h⟩ | ⟨rfl,h⟩
  · rw [hall,h]
    simp [Ex.bind]
  · rw [hall,h]
    simp [Ex.bind]
theorem Pp (n:Nat) (b:Cu) (r:Af) (h:r.legs.length≤20):Bq n b r=some (Js r b):=by
  unfold Bq Js
  rw [F7 n r _ h,PJ]
  by_cases h1:0≤b.stop∧b.stop≤(r.legs.length:Int)
  · have:0≤b.stop∧b.stop<(r.legs.length:Int)+1:=⟨h1.1,by omega⟩
    simp [h1,this]
  · have : ¬ (0≤b.stop∧b.stop<(r.legs.length:Int)+1):=fun h=>h1 ⟨h.1,by omega⟩
    simp only [this,h1,decide_false,Option.bind_some,cond_false,Bool.false_and]
theorem Pq (n:Nat) (b:A6) (r:Af) (h:r.legs.length≤20):Br n b r=some (FI r b):=by
  unfold Br FI
  rw [F7 n r _ h,ML]
  by_cases h1:0≤b.stop∧b.stop≤(r.legs.length:Int)
  · have:0≤b.stop∧b.stop<(r.legs.length:Int)+1:=⟨h1.1,by omega⟩
    simp [h1,this]
  · have : ¬ (0≤b.stop∧b.stop<(r.legs.length:Int)+1):=fun h=>h1 ⟨h.1,by omega⟩
    simp only [this,h1,decide_false,Option.bind_some,cond_false,Bool.false_and]
theorem MM (n:Nat) (r:Af) (h:r.legs.length≤20):B0 n r=some ((((r.legs.length+1) / 2:Nat):Int)):=by
  unfold B0
  rw [CT n r h]
  simp only [Option.bind_some,Option.some.injEq]
  rw [show((r.legs.length:Int)+1)=((r.legs.length+1:Nat):Int) by omega,show Int.tdiv ((r.legs.length+1:Nat):Int) 2=(((r.legs.length+1) / 2:Nat):Int) from rfl,HA (by omega) (by omega)]
theorem QE (n:Nat) (r:Af) (hn:50≤n) (h1:r.legs.length≤20) (h2:r.buses.length≤20) (h3:r.spares.length≤20):B8 n r=some (C2 r):=by
  unfold B8 C2
  rw [Qq n hn r.legs _ (fun x=>D3 x 300) (fun x=>Ok n x) h1,Po n hn r.buses _ (Js r) (fun x=>Pp n x r h1) h2,Nz n hn r.spares _ (FI r) (fun x=>Pq n x r h1) h3]
  simp only [Ok,FN,ML,MM n r h1,Option.bind_some,RY _ (show r.legs.length≤1000 by omega)]
  by_cases a1:r.buses.length>4
  · have a1':decide (((r.buses.length:Nat):Int)>4)=true:=by simp; omega
    simp only [a1',a1,cond_true,Option.bind_some,true_or,if_true]
  have a1':decide (((r.buses.length:Nat):Int)>4)=false:=by simp; omega
  by_cases a2:r.spares.length>2
  · have a2':decide (((r.spares.length:Nat):Int)>2)=true:=by simp; omega
    simp only [a1',a2',a2,cond_true,cond_false,Option.bind_some,or_true,if_true]
  have a2':decide (((r.spares.length:Nat):Int)>2)=false:=by simp; omega
  simp only [a1',a2',cond_false,Option.bind_some,a1,a2,or_self,if_false]
  unfold GV
  by_cases b1 : ¬ (r.legs.length % 2=1)
  · have:r.legs.length % 2=0:=by omega
    simp [this]
  replace b1:=Decidable.not_not.1 b1
  have b1':(((r.legs.length % 2:Nat):Int) == 0)=false:=by rw [b1]; rfl
  by_cases b2 : ¬ (r.legs.length≤7)
  · have b2':decide ((((r.legs.length+1) / 2:Nat):Int)>4)=true:=by simp; omega
    simp only [b1',b2',b2,and_false,decide_false,Bool.false_and,cond_false,cond_true,Option.bind_some]
    rfl
  replace b2:=Decidable.not_not.1 b2
  have b2':decide ((((r.legs.length+1) / 2:Nat):Int)>4)=false:=by simp; omega
  simp only [b1',b2',cond_false,b1,b2,and_self,decide_true,Bool.true_and]
  cases r.legs.all (fun x=>D3 x 300)
  · simp
  cases D3 r.turn 300
  · simp
  cases r.buses.all (Js r)
  · simp
  cases r.spares.all (FI r)
  · simp
  simp only [Bool.not_true,cond_false,Bool.true_and,Bool.and_true,Option.bind_some]
  by_cases b3 : ¬ (1≤r.unit∧r.unit≤30)
  · simp [b3]
  replace b3:=Decidable.not_not.1 b3
  by_cases b4 : ¬ (0≤r.gap∧r.gap≤2000)
  · simp [b3,b4]
  replace b4:=Decidable.not_not.1 b4
  simp only [b3,b4,and_self,decide_true,Bool.not_true,cond_false,Option.bind_some,Bool.true_and]
  by_cases b5 : ¬ (0≤r.fr∧r.fr≤2000)
  · have : ¬ (0≤r.fr∧r.fr≤r.to_∧r.to_≤2000):=fun h=>b5 ⟨h.1,by omega⟩
    simp [b5,this]
  replace b5:=Decidable.not_not.1 b5
  by_cases b6 : ¬ (0≤r.to_∧r.to_≤2000)
  · have : ¬ (0≤r.fr∧r.fr≤r.to_∧r.to_≤2000):=fun h=>b6 ⟨by omega,h.2.2⟩
    simp [b5,b6]; omega
  replace b6:=Decidable.not_not.1 b6
  simp only [b5,b6,and_self,decide_true,Bool.not_true,cond_false,Option.bind_some]
  by_cases b7:r.fr>r.to_
  · have : ¬ (0≤r.fr∧r.fr≤r.to_∧r.to_≤2000):=fun h=>by omega
    have b7':decide (r.fr>r.to_)=true:=by simp; omega
    simp only [b7',cond_true]
    simp; omega
  · have b7':decide (r.fr>r.to_)=false:=by simp; omega
    simp only [b7',cond_false]
    simp; omega
structure Dw (r:Af):Prop where
  nb:r.buses.length≤4
  ns:r.spares.length≤2
  odd:r.legs.length % 2=1
  nl:r.legs.length≤7
  turn:0≤r.turn.lo∧r.turn.lo≤r.turn.hi∧r.turn.hi≤300
  unit:1≤r.unit∧r.unit≤30
  gap:0≤r.gap∧r.gap≤2000
  looked:0≤r.fr∧r.fr≤r.to_∧r.to_≤2000
  legs:∀ x∈r.legs,0≤x.lo∧x.lo≤x.hi∧x.hi≤300
  buses:∀ b∈r.buses,0≤b.stop∧b.stop≤(r.legs.length:Int)∧0≤b.tm.lo∧b.tm.lo≤b.tm.hi∧b.tm.hi≤2000
  spares:∀ s∈r.spares,0≤s.stop∧s.stop≤(r.legs.length:Int)∧0≤s.tm∧s.tm≤2000
theorem Ju {r:Af} (h:C2 r=0):Dw r:=by
  unfold C2 at h
  split at h
  · cases h
  rename_i h1
  split at h
  · rename_i h2
    simp only [GV,D3,Bool.and_eq_true,decide_eq_true_eq,List.all_eq_true] at h2
    obtain⟨⟨⟨⟨⟨⟨⟨q1,q2⟩,q3⟩,q4⟩,q5⟩,q6⟩,q7⟩,q8⟩:=h2
    refine⟨by omega,by omega,q1.1,q1.2,q2,q3,q4,q5,q6,fun b hb=>?_,fun s hs=>?_⟩
    · have:=q7 b hb
      simp only [Js,D3,Bool.and_eq_true,decide_eq_true_eq] at this
      exact⟨this.1.1,this.1.2,this.2⟩
    · have:=q8 s hs
      simp only [FI,Bool.and_eq_true,decide_eq_true_eq] at this
      exact⟨this.1.1,this.1.2,this.2⟩
  · cases h
end Go.Proofs.YtokchpjijlebiaaGreat
namespace Go.Proofs.YtokchpjijlebiaaGreat
open Go Go.RowKit
def HD (r:Af) (a:Av) (i:Nat):Bool:=decide (0≤a.holds[i]!∧a.holds[i]!≤2) && (decide (a.turns[i]! = -1) || decide ((r.buses[i]!).stop≤a.turns[i]!∧a.turns[i]!≤(((r.legs.length+1) / 2:Nat):Int)-2))
def Gl (r:Af) (a:Av):Bool:=decide (a.holds.length=r.buses.length∧a.turns.length=r.buses.length∧a.spares.length=r.spares.length) && (List.range r.buses.length).all (HD r a)
theorem M7 (n:Nat) (r:Af) (h:r.legs.length≤20):FU n r=some ((((r.legs.length+1) / 2:Nat):Int)):=by
  unfold FU
  rw [HA (x:=(r.legs.length:Int)+1) (by omega) (by omega),show((r.legs.length:Int)+1)=((r.legs.length+1:Nat):Int) by omega,show Int.tdiv ((r.legs.length+1:Nat):Int) 2=(((r.legs.length+1) / 2:Nat):Int) from rfl,HA (by omega) (by omega)]
theorem QF (n:Nat) (r:Af) (b:Cu) (t:Int) (h:r.legs.length≤20):BU n r b t=some (decide (t=-1) || decide (b.stop≤t∧t≤(((r.legs.length+1) / 2:Nat):Int)-2)):=by
  unfold BU
  rw [MM n r h]
  simp only [Option.bind_some,FN]
  rw [HA (by omega) (by omega)]
  by_cases ht:t=-1
  · simp [ht]
  · rw [beq_eq_false_iff_ne.2 ht]
    simp [ht]
theorem IE (r:Af) (a:Av) (hl:r.legs.length≤20) (hb:r.buses.length≤20) (h1:a.holds.length=r.buses.length) (h2:a.turns.length=r.buses.length):∀ (n i:Nat),r.buses.length<n+i→i≤r.buses.length→Ce n r a (i:Int)=some (if ((List.range r.buses.length).drop i).all (HD r a) then Ex.go () else Ex.ret false)
  | 0,i,h,hi=>by omega
  | n+1,i,h,hi=>by
    rw [Ce,BG]
    by_cases hx:i<r.buses.length
    · have q1:i<a.holds.length:=by omega
      have q2:i<a.turns.length:=by omega
      have q6:i<(List.range r.buses.length).length:=by simpa using hx
      simp only [hx,decide_true,cond_true,AT _ _ hx,AT _ _ q1,AT _ _ q2,Option.bind_some,GA,M7 n r hl]
      rw [AV q6,List.all_cons,List.getElem_range]
      have IH:=IE r a hl hb h1 h2 n (i+1) (by omega) (by omega)
      rw [HA (x:=(((r.legs.length+1) / 2:Nat):Int)-2) (by omega) (by omega),DQ i (by omega),IH]
      unfold HD
      rw [Cc _ _ hx,Cc _ _ q1,Cc _ _ q2]
      by_cases b1:0≤a.holds[i]∧a.holds[i]≤2
      · simp only [b1,and_self,decide_true,Bool.not_true,cond_false,Bool.true_and]
        by_cases b2:a.turns[i]=-1
        · simp [b2]
        · have:(a.turns[i] != -1)=true:=by simpa using b2
          simp only [this,cond_true,b2,decide_false,Bool.false_or]
          by_cases b3:(r.buses[i]).stop≤a.turns[i]∧a.turns[i]≤(((r.legs.length+1) / 2:Nat):Int)-2
          · simp only [b3,and_self,decide_true,Bool.not_true,cond_false,Bool.true_and]
          · simp only [b3,decide_false,Bool.not_false,cond_true,Bool.false_and]
            rfl
      · simp only [b1,decide_false,Bool.not_false,cond_true,Bool.false_and]
        rfl
    · have:i=r.buses.length:=by omega
      have hd:(List.range r.buses.length).drop r.buses.length=[]:=List.drop_eq_nil_of_le (by simp)
      simp [this,hd]
theorem Lz (r:Af) (a:Av) (hl:r.legs.length≤20) (hb:r.buses.length≤20) (h1:a.holds.length=r.buses.length) (h2:a.turns.length=r.buses.length):∀ (n i:Nat),r.buses.length<n+i→i≤r.buses.length→Bs n r a (i:Int)=some (if ((List.range r.buses.length).drop i).all (HD r a) then Ex.go () else Ex.ret 2)
  | 0,i,h,hi=>by omega
  | n+1,i,h,hi=>by
    rw [Bs,BG]
    by_cases hx:i<r.buses.length
    · have q1:i<a.holds.length:=by omega
      have q2:i<a.turns.length:=by omega
      have q6:i<(List.range r.buses.length).length:=by simpa using hx
      simp only [hx,decide_true,cond_true,AT _ _ hx,AT _ _ q1,AT _ _ q2,Option.bind_some,FN,QF n r _ _ hl]
      rw [AV q6,List.all_cons,List.getElem_range]
      have IH:=Lz r a hl hb h1 h2 n (i+1) (by omega) (by omega)
      rw [DQ i (by omega),IH]
      unfold HD
      rw [Cc _ _ hx,Cc _ _ q1,Cc _ _ q2]
      cases decide (0≤a.holds[i]∧a.holds[i]≤2) with
      | false=>rfl
      | true =>
        simp only [Bool.not_true,cond_false,Bool.true_and]
        cases (decide (a.turns[i]=-1) || decide ((r.buses[i]).stop≤a.turns[i]∧a.turns[i]≤(((r.legs.length+1) / 2:Nat):Int)-2)) with
        | false=>rfl
        | true=>rfl
    · have:i=r.buses.length:=by omega
      have hd:(List.range r.buses.length).drop r.buses.length=[]:=List.drop_eq_nil_of_le (by simp)
      simp [this,hd]
theorem L0 (n:Nat) (r:Af) (a:Av) (hn:50≤n) (hl:r.legs.length≤20) (hb:r.buses.length≤20):Fx n r a=some (Gl r a):=by
  unfold Fx Gl
  by_cases h1:a.holds.length=r.buses.length
  · by_cases h2:a.turns.length=r.buses.length
    · by_cases h3:a.spares.length=r.spares.length
      · have e1:=IE r a hl hb h1 h2 n 0 (by omega) (by omega)
        simp only [Int.natCast_zero,List.drop_zero] at e1
        simp only [h1,h2,h3,bne_self_eq_false,cond_false,Option.bind_some,e1,and_self,decide_true,Bool.true_and]
        cases (List.range r.buses.length).all (HD r a) <;> rfl
      · have:(((a.spares.length:Nat):Int) != ((r.spares.length:Nat):Int))=true:=by simp; omega
        simp only [h1,h2,h3,this,bne_self_eq_false,cond_false,cond_true,Option.bind_some,and_false,decide_false,Bool.false_and]
    · have:(((a.turns.length:Nat):Int) != ((r.buses.length:Nat):Int))=true:=by simp; omega
      simp only [h1,h2,this,bne_self_eq_false,cond_false,cond_true,Option.bind_some,false_and,and_false,decide_false,Bool.false_and]
  · have:(((a.holds.length:Nat):Int) != ((r.buses.length:Nat):Int))=true:=by simp; omega
    simp only [h1,this,cond_true,Option.bind_some,false_and,decide_false,Bool.false_and]
theorem PK (n:Nat) (r:Af) (a:Av) (hn:50≤n) (hl:r.legs.length≤20) (hb:r.buses.length≤20) (hs:r.spares.length≤20):BY n r a=some (if C2 r≠0 then C2 r else if Gl r a then 0 else 2):=by
  unfold BY Gl
  rw [QE n r hn hl hb hs]
  by_cases h0 : ¬ (C2 r=0)
  · have:(C2 r != 0)=true:=by simpa using h0
    simp [this,h0]
  replace h0:=Decidable.not_not.1 h0
  simp only [h0,bne_self_eq_false,cond_false,Option.bind_some,ne_eq,not_true_eq_false,if_false]
  by_cases h1:a.holds.length=r.buses.length
  · by_cases h2:a.turns.length=r.buses.length
    · by_cases h3:a.spares.length=r.spares.length
      · have e1:=Lz r a hl hb h1 h2 n 0 (by omega) (by omega)
        simp only [Int.natCast_zero,List.drop_zero] at e1
        simp only [h1,h2,h3,bne_self_eq_false,cond_false,Option.bind_some,e1,and_self,decide_true,Bool.true_and]
        cases (List.range r.buses.length).all (HD r a) <;> rfl
      · have:(((a.spares.length:Nat):Int) != ((r.spares.length:Nat):Int))=true:=by simp; omega
        simp only [h1,h2,h3,this,bne_self_eq_false,cond_false,cond_true,Option.bind_some,and_false,decide_false,Bool.false_and]
        rfl
    · have:(((a.turns.length:Nat):Int) != ((r.buses.length:Nat):Int))=true:=by simp; omega
      simp only [h1,h2,this,bne_self_eq_false,cond_false,cond_true,Option.bind_some,false_and,and_false,decide_false,Bool.false_and]
      rfl
  · have:(((a.holds.length:Nat):Int) != ((r.buses.length:Nat):Int))=true:=by simp; omega
    simp only [h1,this,cond_true,Option.bind_some,false_and,decide_false,Bool.false_and]
    rfl
def C3 (m to_:Int) (l:List Rg):Int:=l.foldl (fun e p=>if p.lo>m then min e p.hi else e) to_
def E5 (fr to_:Int) (l:List Rg):List Int:=fr::(l.filter fun p=>decide (fr≤p.lo) && decide (p.lo≤to_)).map Rg.lo
def WR (fr to_:Int) (l:List Rg):Int:=(E5 fr to_ l).foldl (fun b m=>max b (C3 m to_ l-m)) 0
theorem HE (m:Int):∀ (l:List Rg)(to_:Int),(∀ p∈l,p.lo≤p.hi)→m≤to_→m≤C3 m to_ l∧C3 m to_ l≤to_
  | [],to_,_,h=>⟨h,Int.le_refl _⟩
  | p::r,to_,hp,h=>by
    have h1:=hp p (by simp)
    show m≤C3 m (if p.lo>m then min to_ p.hi else to_) r∧C3 m (if p.lo>m then min to_ p.hi else to_) r≤to_
    split
    · have:=HE m r (min to_ p.hi) (fun q hq=>hp q (List.mem_cons_of_mem _ hq)) (by omega)
      omega
    · exact HE m r to_ (fun q hq=>hp q (List.mem_cons_of_mem _ hq)) h
theorem L3 (m:Int):∀ (l:List (Int×Rg))(to_:Int),Ax m to_ l=C3 m to_ (l.map Prod.snd)
  | [],_=>rfl
  | p::r,to_=>L3 m r _
theorem K5 {α β:Type} {f g:β→α→β}:∀ (l:List α)(b:β),(∀ b x,x∈l→f b x=g b x)→l.foldl f b=l.foldl g b
  | [],_,_=>rfl
  | x::r,b,h=>by
    rw [List.foldl_cons,List.foldl_cons,h b x (by simp)]
    exact K5 r _ fun b y hy=>h b y (List.mem_cons_of_mem _ hy)
theorem K6 {fr to_ m:Int} {l:List Rg} (h:fr≤to_) (hm:m∈E5 fr to_ l):fr≤m∧m≤to_:=by
  rcases List.mem_cons.1 hm with rfl | hm
  · exact⟨Int.le_refl _,h⟩
  · obtain⟨p,hp,rfl⟩:=List.mem_map.1 hm
    have:=(List.mem_filter.1 hp).2
    simpa using this
theorem Qr (n:Nat) (r:Af) (l:List (Int×Rg)) (hn:60≤n) (hl:l.length≤20) (hp:∀ p∈l.map Prod.snd,p.lo≤p.hi) (h0:0≤r.fr) (h1:r.fr≤r.to_) (h2:r.to_≤2000):B3 n r (E0.mk l)=some (WR r.fr r.to_ (l.map Prod.snd)):=by
  unfold B3 WR
  rw [if_pos ⟨by simp only; omega,by simp only; omega⟩]
  have hM:DF r l=E5 r.fr r.to_ (l.map Prod.snd):=by
    unfold DF E5
    rw [List.filter_map,List.map_map]
    rfl
  simp only []
  rw [hM]
  congr 1
  refine K5 _ _ fun b m hm=>?_
  have q:=K6 h1 hm
  have:=HE m (l.map Prod.snd) r.to_ hp q.2
  rw [L3,HA (by omega) (by omega)]
theorem K7 (w:AE) (sp:List (List (Int×Rg))) (hs:sp.length≤50) (hl:∀ l∈sp,l.length≤20∧∀ p∈l.map Prod.snd,p.lo≤p.hi) (h0:0≤w.route.fr) (h1:w.route.fr≤w.route.to_) (h2:w.route.to_≤2000):∀ (n i:Nat)(acc:List Int),sp.length+60<n+i→i≤sp.length→acc.length=i →
    Ba n w (sp.map E0.mk) acc (i:Int)=some (acc++(sp.drop i).map fun l=>WR w.route.fr w.route.to_ (l.map Prod.snd))
  | 0,i,acc,h,hi,_=>by omega
  | n+1,i,acc,h,hi,ha=>by
    rw [Ba,BG,List.length_map]
    by_cases hx:i<sp.length
    · simp only [hx,decide_true,cond_true]
      rw [AT _ i (by simpa using hx)]
      simp only [Option.bind_some,List.getElem_map]
      have:=hl _ (List.getElem_mem hx)
      rw [Qr n w.route _ (by omega) this.1 this.2 h0 h1 h2]
      simp only [Option.bind_some]
      rw [DB _ _ (by simp; omega)]
      simp only [Option.bind_some]
      rw [DQ i (by omega),K7 w sp hs hl h0 h1 h2 n (i+1) _ (by omega) (by omega) (by simp; omega),AV hx,List.append_assoc]
      rfl
    · have:i=sp.length:=by omega
      simp [this]
end Go.Proofs.YtokchpjijlebiaaGreat
namespace Go.Proofs.YtokchpjijlebiaaGreat
open Go Go.RowKit
structure EV (r:Af) (a:Av):Prop where
  holds:a.holds.length=r.buses.length
  turns:a.turns.length=r.buses.length
  spares:a.spares.length=r.spares.length
  hold:∀ i,i<r.buses.length→0≤a.holds[i]!∧a.holds[i]!≤2
  turn:∀ i,i<r.buses.length→a.turns[i]! = -1∨(r.buses[i]!).stop≤a.turns[i]!∧a.turns[i]!≤(((r.legs.length+1) / 2:Nat):Int)-2
theorem MN {r:Af} {a:Av} (h:Gl r a=true):EV r a:=by
  simp only [Gl,Bool.and_eq_true,decide_eq_true_eq,List.all_eq_true,List.mem_range] at h
  obtain⟨⟨h1,h2,h3⟩,h4⟩:=h
  refine⟨h1,h2,h3,fun i hi=>?_,fun i hi=>?_⟩ <;>
  · have:=h4 i hi
    simp only [HD,Bool.and_eq_true,Bool.or_eq_true,decide_eq_true_eq] at this
    first | exact this.1 | exact this.2
structure DD (f:Rg→Int):Prop where
  le:∀ x:Rg,x.lo≤x.hi→x.lo≤f x∧f x≤x.hi
theorem DD.low:DD Rg.lo:=⟨fun _ h=>⟨Int.le_refl _,h⟩⟩
theorem DD.high:DD Rg.hi:=⟨fun _ h=>⟨h,Int.le_refl _⟩⟩
def Ez (r:Af) (a:Av) (f:Rg→Int) (i:Nat):AR×Ay:=(⟨(r.buses[i]!).stop,f (r.buses[i]!).tm+a.holds[i]! * r.unit,a.turns[i]!⟩,⟨r.legs.map f,f r.turn⟩)
def IF (r:Af) (f:Rg→Int) (j:Nat):AR×Ay:=(⟨(r.spares[j]!).stop,(r.spares[j]!).tm,-1⟩,⟨r.legs.map f,0⟩)
theorem Ol {α β:Type} [Inhabited α] [Inhabited β] (g:α→β) (l:List α) (i:Nat) (h:i<l.length):(l.map g)[i]! = g l[i]!:=by
  rw [Cc _ _ (by simpa using h),Cc _ _ h,List.getElem_map]
theorem Om {β:Type} [Inhabited β] (x:β) (n i:Nat) (h:i<n):(List.replicate n x)[i]! = x:=by
  rw [Cc _ _ (by simpa using h),List.getElem_replicate]
theorem GC {α β:Type} {f g:α→Option β}:∀ {l:List α},(∀ x∈l,f x=g x)→l.filterMap f=l.filterMap g
  | [],_=>rfl
  | x::r,h=>by
    rw [List.filterMap_cons,List.filterMap_cons,h x (by simp),GC fun y hy=>h y (List.mem_cons_of_mem _ hy)]
theorem EW (r:Af) (a:Av) (f:Rg→Int):CF r a (CU r f)=(List.range r.buses.length).map (Ez r a f)++(List.range r.spares.length).filterMap fun j=>if a.spares[j]! then some (IF r f j) else none:=by
  unfold CF
  congr 1
  · refine List.map_congr_left fun i hi=>?_
    rw [List.mem_range] at hi
    unfold C1 Ez CU
    simp only []
    rw [Ol _ _ _ hi,Ol _ _ _ hi,Om _ _ _ (by omega)]
  · refine GC fun j hj=>?_
    rw [List.mem_range] at hj
    unfold GU IF CU
    simp only []
    rw [Om _ _ _ (by omega)]
theorem L4 {r:Af} {a:Av} {f:Rg→Int} (hf:DD f) (V:Dw r) (A:EV r a):MK r a (CU r f):=by
  refine⟨by have:=V.nb; omega,by have:=V.ns; omega,A.holds,A.turns,A.spares,by simp [CU],by simp [CU],by simp [CU],fun x hx=>?_,V.unit,fun x hx=>?_⟩
  · obtain⟨i,hi,rfl⟩:=List.mem_iff_getElem.1 hx
    have:=A.hold i (by rw [← A.holds]; exact hi)
    rwa [Cc _ _ hi] at this
  · simp only [CU] at hx
    obtain⟨b,hb,rfl⟩:=List.mem_map.1 hx
    have:=V.buses b hb
    have:=hf.le b.tm (by omega)
    omega
theorem L5 {r:Af} {f:Rg→Int} (hf:DD f) (V:Dw r):(∀ d∈r.legs.map f,0≤d∧d≤300)∧0≤f r.turn∧f r.turn≤300:=by
  refine⟨fun d hd=>?_,?_⟩
  · obtain⟨x,hx,rfl⟩:=List.mem_map.1 hd
    have:=V.legs x hx
    have:=hf.le x (by omega)
    omega
  · have:=V.turn
    have:=hf.le r.turn (by omega)
    omega
theorem Jv {r:Af} {a:Av} {f:Rg→Int} (hf:DD f) (V:Dw r) (A:EV r a) (i:Nat) (hi:i<r.buses.length):EU r (Ez r a f i):=by
  have hb:=V.buses _ (List.getElem_mem hi)
  have h1:=A.hold i hi
  have h2:=A.turn i hi
  have h3:=Kg h1.1 h1.2 V.unit.1 V.unit.2
  obtain⟨s1,s2,s3⟩:=L5 hf V
  have:=V.nl
  rw [Cc _ _ hi] at h2
  have h4:=hf.le (r.buses[i]).tm (by omega)
  refine⟨⟨s2,s3,by simp [Ez]; omega,s1⟩,by simp [Ez],?_,?_,?_,?_,?_⟩ <;> simp only [Ez,Cc _ _ hi] <;> omega
theorem L6 {r:Af} {f:Rg→Int} (hf:DD f) (V:Dw r) (j:Nat) (hj:j<r.spares.length):EU r (IF r f j):=by
  have hb:=V.spares _ (List.getElem_mem hj)
  obtain⟨s1,_,_⟩:=L5 hf V
  have:=V.nl
  refine⟨⟨Int.le_refl _,by simp [IF],by simp [IF]; omega,s1⟩,by simp [IF],?_,?_,?_,?_,?_⟩ <;> simp only [IF,Cc _ _ hj] <;> omega
theorem Jw {r:Af} {a:Av} {f:Rg→Int} (hf:DD f) (V:Dw r) (A:EV r a):∀ p∈CF r a (CU r f),EU r p:=by
  rw [EW]
  intro p hp
  rcases List.mem_append.1 hp with hp | hp
  · obtain⟨i,hi,rfl⟩:=List.mem_map.1 hp
    exact Jv hf V A i (by simpa using hi)
  · obtain⟨j,hj,h⟩:=List.mem_filterMap.1 hp
    split at h
    · cases h; exact L6 hf V j (by simpa using hj)
    · cases h
def HF (r:Af) (a:Av):List ((AR×Ay)×(AR×Ay)):=(List.range r.buses.length).map (fun i=>(Ez r a Rg.lo i,Ez r a Rg.hi i))++(List.range r.spares.length).filterMap fun j=>if a.spares[j]! then some (IF r Rg.lo j,IF r Rg.hi j) else none
theorem G0 {α β γ:Type} (c:α→Bool) (f:α→β) (g:α→γ):∀ l:List α,(l.filterMap fun j=>if c j then some (f j) else none).zip (l.filterMap fun j=>if c j then some (g j) else none)=l.filterMap fun j=>if c j then some (f j,g j) else none
  | []=>rfl
  | x::r=>by
    simp only [List.filterMap_cons]
    cases c x with
    | true=>simp only [if_true,List.zip_cons_cons,G0 c f g r]
    | false=>simp only [Bool.false_eq_true,if_false,G0 c f g r]
theorem G1 {α β γ:Type} (c:α→Bool) (f:α→β) (g:α→γ):∀ l:List α,(l.filterMap fun j=>if c j then some (f j) else none).length=(l.filterMap fun j=>if c j then some (g j) else none).length
  | []=>rfl
  | x::r=>by
    simp only [List.filterMap_cons]
    cases c x with
    | true=>simp only [if_true,List.length_cons,G1 c f g r]
    | false=>simp only [Bool.false_eq_true,if_false,G1 c f g r]
theorem Kj (r:Af) (a:Av):(CF r a (CU r Rg.lo)).zip (CF r a (CU r Rg.hi))=HF r a:=by
  rw [EW,EW,List.zip_append (by simp),HF,G0,List.zip_map']
theorem Qs (r:Af) (a:Av):(CF r a (CU r Rg.lo)).length=(CF r a (CU r Rg.hi)).length:=by
  rw [EW,EW,List.length_append,List.length_append,G1 _ (IF r Rg.lo) (IF r Rg.hi)]
  simp
theorem GW (r:Af) (a:Av) (f:Rg→Int):(CF r a (CU r f)).length≤r.buses.length+r.spares.length:=by
  rw [EW,List.length_append,List.length_map,List.length_range]
  have:=List.length_filterMap_le (fun j=>if a.spares[j]! then some (IF r f j) else none) (List.range r.spares.length)
  rw [List.length_range] at this
  omega
theorem FT {st turned turn:Int} {legs:List Int} (ht:2*turned+1<st):∀ (n m:Nat)(tm s:Int),st-s<n→st-s<m→BE st turned turn legs n tm s=BE st turned turn legs m tm s
  | 0,m,tm,s,h1,h2=>by
    cases m with
    | zero=>rfl
    | succ m=>rw [BE,BE,if_neg (by omega)]
  | n+1,0,tm,s,h1,h2=>by rw [BE,BE,if_neg (by omega)]
  | n+1,m+1,tm,s,h1,h2=>by
    rw [BE,BE]
    by_cases hc:0≤s∧s<st
    · simp only [hc,and_self,if_true]
      congr 1
      by_cases hs:s=turned
      · simp only [hs,if_true]
        exact FT ht n m _ _ (by omega) (by omega)
      · simp only [hs,if_false]
        cases legs[s.toNat]? with
        | none=>rfl
        | some d=>exact FT ht n m _ _ (by omega) (by omega)
    · simp only [hc,if_false]
theorem On {r:Af} {p:(AR×Ay)×(AR×Ay)} (hl:r.legs.length≤20) (h1:EU r p.1) (h2:EU r p.2) {n:Nat} (hn:30≤n) (k:Int):DC ((r.legs.length:Int)+1) n p k=DC ((r.legs.length:Int)+1) 40 p k:=by
  have a1:=h1.s0
  have a2:=h2.s0
  unfold DC
  rw [FT h1.t n 40 _ _ (by omega) (by omega),FT h2.t n 40 _ _ (by omega) (by omega)]
theorem MO {r:Af} {a:Av} (V:Dw r) {p:(AR×Ay)×(AR×Ay)} (hp:p∈HF r a) (n:Nat) (k:Int) (A:EV r a) :
    (BQ (BE ((r.legs.length:Int)+1) p.1.1.turned p.1.2.turn p.1.2.legs n p.1.1.tm p.1.1.stop) k=none∧BQ (BE ((r.legs.length:Int)+1) p.2.1.turned p.2.2.turn p.2.2.legs n p.2.1.tm p.2.1.stop) k=none) ∨
    ∃ x y,BQ (BE ((r.legs.length:Int)+1) p.1.1.turned p.1.2.turn p.1.2.legs n p.1.1.tm p.1.1.stop) k=some x∧BQ (BE ((r.legs.length:Int)+1) p.2.1.turned p.2.2.turn p.2.2.legs n p.2.1.tm p.2.1.stop) k=some y∧x≤y:=by
  have hle:∀ (k:Nat)(d d':Int),(r.legs.map Rg.lo)[k]? = some d→(r.legs.map Rg.hi)[k]? = some d'→d≤d':=fun k d d' h1 h2=>by
    rw [List.getElem?_map] at h1 h2
    obtain⟨x,hx,rfl⟩:=Option.map_eq_some_iff.1 h1
    rw [hx] at h2
    cases h2
    have:=V.legs x (List.mem_of_getElem? hx)
    omega
  unfold HF at hp
  rcases List.mem_append.1 hp with hp | hp
  · obtain⟨i,hi,rfl⟩:=List.mem_map.1 hp
    have hi:i<r.buses.length:=by simpa using hi
    have ok:=Jv DD.low V A i hi
    have hb:=V.buses _ (List.getElem_mem hi)
    have:=V.turn
    exact G9 (turn:=r.turn.lo) (turn':=r.turn.hi) ok.t (by simp) hle (by omega) n _ _ _ k (by simp only [Ez,Cc _ _ hi]; omega)
  · obtain⟨j,hj,h⟩:=List.mem_filterMap.1 hp
    split at h
    · cases h
      have ok:=L6 DD.low V j (by simpa using hj)
      exact G9 ok.t (by simp) hle (Int.le_refl _) n _ _ _ k (Int.le_refl _)
    · cases h
def Dx (r:Af) (a:Av) (k:Nat):List Rg:=(HF r a).filterMap fun p=>DC ((r.legs.length:Int)+1) 40 p k
theorem Ee (st:Int) (n:Nat) (k:Int):∀ (i:Nat)(l:List ((AR×Ay)×(AR×Ay))),(CV st n k i l).map Prod.snd=l.filterMap fun p=>DC st n p k
  | _,[]=>rfl
  | i,p::r=>by
    rw [CV,List.filterMap_cons]
    cases DC st n p k with
    | none=>exact Ee st n k (i+1) r
    | some x=>simp only [List.map_cons,Ee st n k (i+1) r]
theorem Qt {r:Af} {a:Av} (V:Dw r) (A:EV r a) (k:Nat):∀ x∈Dx r a k,x.lo≤x.hi:=fun x hx=>by
  obtain⟨p,hp,h⟩:=List.mem_filterMap.1 hx
  unfold DC at h
  rcases MO V hp 40 k A with⟨h1,h2⟩ | ⟨u,v,h1,h2,h3⟩
  · rw [h1,h2] at h; cases h
  · rw [h1,h2] at h; cases h; exact h3
theorem Jx {α:Type}:∀ l:List α,List.mapM id (l.map some)=some l
  | []=>rfl
  | x::r=>by rw [List.map_cons,List.mapM_cons,Jx r]; rfl
theorem K8 (st:Nat) (x18:List (Option (List (Int×Rg)))) (h18:x18.length=st) (hb:st≤50):∀ (n i:Nat)(x:List (Option (List (Int×Rg)))),st<n+i→i≤st→x.length=st→(∀ k,k<i→x[k]? = some (some []))→AY n x18 x (i:Int)=some (List.replicate st (some []))
  | 0,i,x,h,hi,_,_=>by omega
  | n+1,i,x,h,hi,hx,hk=>by
    rw [AY,BG,h18]
    by_cases hi':i<st
    · simp only [hi',decide_true,cond_true]
      rw [AT _ i (by omega)]
      simp only [Option.bind_some]
      rw [Pn _ i _ (by omega)]
      simp only [Option.bind_some]
      rw [DQ i (by omega),K8 st x18 h18 hb n (i+1) _ (by omega) (by omega) (by simpa using hx) fun k hk'=>?_]
      rw [List.getElem?_set]
      by_cases hik:i=k
      · subst hik; simp; omega
      · simp only [hik,if_false]; exact hk k (by omega)
    · simp only [hi',decide_false,cond_false,Option.some.injEq]
      apply List.ext_getElem?
      intro k
      by_cases hks:k<st
      · rw [hk k (by omega),List.getElem?_replicate]; simp [hks]
      · rw [List.getElem?_eq_none (by omega),List.getElem?_eq_none (by simp; omega)]
theorem QG (n:Nat) (r:Af) (a:Av) (V:Dw r) (A:EV r a) (hn:80≤n) (hn2:n≤900):BK n ⟨r,a⟩=some ((List.range (r.legs.length+1)).map fun(k:Nat)=>E0.mk (CV ((r.legs.length:Int)+1) 40 k 0 (HF r a))):=by
  have:=V.nl
  have:=V.nb
  have:=V.ns
  unfold BK
  simp only []
  rw [CT n r (by omega),Option.bind_some]
  have eM:mk ((r.legs.length:Int)+1) (none:Option (List (Int×Rg)))=some (List.replicate (r.legs.length+1) none):=by
    rw [show((r.legs.length:Int)+1)=((r.legs.length+1:Nat):Int) by omega]; exact SP _ _ (by omega)
  rw [eM,Option.bind_some]
  have e0:=K8 (r.legs.length+1) (List.replicate (r.legs.length+1) (none:Option (List (Int×Rg)))) (by simp) (by omega) n 0 (List.replicate (r.legs.length+1) none) (by omega) (by omega) (by simp) (fun k hk=>by omega)
  simp only [Int.natCast_zero] at e0
  rw [e0,PI n r Rg.lo (fun y0=>BN n y0) (fun x=>rfl) (by omega) (by omega) (by omega) (by omega),PI n r Rg.hi (fun y0=>BI n y0) (fun x=>rfl) (by omega) (by omega) (by omega) (by omega),Option.bind_some,Option.bind_some]
  rw [Lx n r a _ (L4 DD.low V A) (by omega),Option.bind_some,Option.bind_some,Lx n r a _ (L4 DD.high V A) (by omega),Option.bind_some]
  have e2:=K1 ⟨r,a⟩ (CF r a (CU r Rg.lo)) (CF r a (CU r Rg.hi)) (by simp only; omega) (Qs r a) (Jw DD.low V A) (Jw DD.high V A) 60 (by omega) (by omega) (by have:=GW r a Rg.lo; omega)
    (fun m hm1 hm2 p hp=>by
      have hz:=hp
      rw [Kj] at hz
      have hp1:p.1∈CF r a (CU r Rg.lo):=(List.of_mem_zip (show(p.1,p.2)∈_ from hp)).1
      have hp2:p.2∈CF r a (CU r Rg.hi):=(List.of_mem_zip (show(p.1,p.2)∈_ from hp)).2
      refine⟨fun k=>?_,fun k=>On (by omega) (Jw DD.low V A _ hp1) (Jw DD.high V A _ hp2) hm1 k⟩
      rcases MO V hz m k A with⟨h1,h2⟩ | ⟨x,y,h1,h2,_⟩
      · simp only; rw [h1,h2]
      · simp only; rw [h1,h2]; simp) n 0 (List.replicate (r.legs.length+1) []) (by have:=GW r a Rg.lo; omega) (by omega) (by omega) (by simp) (fun m hm p hp=>by
        rw [(List.mem_replicate.1 hm).2] at hp; cases hp)
  simp only [Int.natCast_zero,List.map_replicate,List.drop_zero] at e2
  rw [e2,Option.bind_some,Jx,Option.bind_some,List.map_map,Option.some.injEq]
  refine List.map_congr_left fun k hk=>?_
  rw [List.mem_range] at hk
  simp only [Function.comp,Kj,List.getElem?_replicate,hk,if_true,Option.getD_some,List.nil_append]
def DE (r:Af) (a:Av):List Int:=(List.range (r.legs.length+1)).map fun k=>WR r.fr r.to_ (Dx r a k)
theorem QH (n:Nat) (r:Af) (a:Av) (V:Dw r) (A:EV r a) (hn:100≤n) (hn2:n≤900):BL n ⟨r,a⟩=some (DE r a):=by
  have:=V.nl
  have:=V.nb
  have:=V.ns
  have:=V.looked
  unfold BL
  rw [QG n r a V A (by omega) hn2]
  simp only [Option.bind_some]
  have e:=K7 ⟨r,a⟩ ((List.range (r.legs.length+1)).map fun(k:Nat)=>CV ((r.legs.length:Int)+1) 40 k 0 (HF r a)) (by simp; omega) (fun l hl=>by
    obtain⟨k,_,rfl⟩:=List.mem_map.1 hl
    refine⟨?_,by rw [Ee]; exact Qt V A k⟩
    have h1:(CV ((r.legs.length:Int)+1) 40 k 0 (HF r a)).length=((CV ((r.legs.length:Int)+1) 40 k 0 (HF r a)).map Prod.snd).length:=by simp
    rw [h1,Ee]
    refine Nat.le_trans (List.length_filterMap_le _ _) ?_
    rw [← Kj,List.length_zip]
    have:=GW r a Rg.lo
    omega) (by simp only; omega) (by simp only; omega) (by simp only; omega) n 0 [] (by simp; omega) (by omega) rfl
  simp only [Int.natCast_zero,List.nil_append,List.drop_zero,List.map_map] at e
  simp only [Function.comp_def] at e
  rw [e]
  simp only [Option.bind_some,DE,Dx,Ee]
theorem Oo (n:Nat) (r:Af) (a:Av) (hF:C2 r=0) (hA:Gl r a=true) (hn:100≤n) (hn2:n≤900):CM n r a=some (DE r a,0):=by
  have V:=Ju hF
  have:=V.nl
  have:=V.nb
  have:=V.ns
  unfold CM
  rw [PK n r a (by omega) (by omega) (by omega) (by omega),QH n r a V (MN hA) hn hn2]
  simp [hF,hA]
end Go.Proofs.YtokchpjijlebiaaGreat
namespace Go.Proofs.YtokchpjijlebiaaGreat
open Go Go.RowKit
theorem QI (n:Nat) (r:Af) (a:Av) (hn:60≤n):∃ b,GF n r a=some b∧(b=true→r.legs.length≤10∧r.buses.length≤6∧r.spares.length≤4∧a.holds.length≤8∧a.turns.length≤8∧a.spares.length≤8∧C2 r=0∧Gl r a=true):=by
  unfold GF J0
  by_cases h1 : ¬ (((r.legs.length:Nat):Int)≤10)
  · exact⟨false,by simp only [h1,decide_false,cond_false,Option.bind_some],by simp⟩
  replace h1:=Decidable.not_not.1 h1
  by_cases h2 : ¬ (((r.buses.length:Nat):Int)≤6)
  · exact⟨false,by simp only [h1,h2,decide_true,decide_false,cond_true,cond_false,Option.bind_some],by simp⟩
  replace h2:=Decidable.not_not.1 h2
  by_cases h3 : ¬ (((r.spares.length:Nat):Int)≤4)
  · exact⟨false,by simp only [h1,h2,h3,decide_true,decide_false,cond_true,cond_false,Option.bind_some],by simp⟩
  replace h3:=Decidable.not_not.1 h3
  simp only [h1,h2,h3,decide_true,cond_true,Option.bind_some]
  obtain⟨m,rfl⟩:∃ m,n=m+1:=⟨n-1,by omega⟩
  have e1:DR (m+1) (Aw.mk [] [] []) 0=some (Ex.go ()):=rfl
  unfold Iw
  rw [e1]
  simp only [Option.bind_some,Ex.bind]
  by_cases q1 : ¬ (((a.holds.length:Nat):Int)≤8)
  · exact⟨false,by simp only [q1,decide_false,cond_false,Option.bind_some],by simp⟩
  replace q1:=Decidable.not_not.1 q1
  by_cases q2 : ¬ (((a.turns.length:Nat):Int)≤8)
  · exact⟨false,by simp only [q1,q2,decide_true,cond_true,decide_false,cond_false,Option.bind_some],by simp⟩
  replace q2:=Decidable.not_not.1 q2
  by_cases q3 : ¬ (((a.spares.length:Nat):Int)≤8)
  · exact⟨false,by simp only [q1,q2,q3,decide_true,cond_true,decide_false,cond_false,Option.bind_some],by simp⟩
  replace q3:=Decidable.not_not.1 q3
  simp only [q1,q2,q3,decide_true,cond_true]
  have z:decide ((((([]:List Int).length):Nat):Int)≤8)=true:=by decide
  have z2:decide ((((([]:List (List Int)).length):Nat):Int)≤8)=true:=by decide
  simp only [z,z2,cond_true,Option.bind_some]
  unfold Ix
  rw [Ny (m+1) r (by omega) (by omega) (by omega) (by omega),L0 (m+1) r a (by omega) (by omega) (by omega)]
  simp only [Option.bind_some]
  by_cases f0:C2 r=0
  · rw [f0]
    simp only [bne_self_eq_false,cond_false]
    cases hb:Gl r a with
    | true=>exact⟨_,rfl,fun _=>⟨by omega,by omega,by omega,by omega,by omega,by omega,by simp,by simp⟩⟩
    | false=>exact⟨_,rfl,fun h=>by simp at h⟩
  · have:(C2 r != 0)=true:=by simpa using f0
    simp only [this,cond_true,Option.bind_some]
    exact⟨_,rfl,fun h=>absurd (by simpa using h) f0⟩
end Go.Proofs.YtokchpjijlebiaaGreat
namespace Go.Proofs.YtokchpjijlebiaaGreat
open Go Go.RowKit
def Bo.put (x:Bo) (k:Nat) (v:Int):Bo:=match k with
  | 0=>⟨v,x.a1,x.a2,x.a3⟩
  | 1=>⟨x.a0,v,x.a2,x.a3⟩
  | 2=>⟨x.a0,x.a1,v,x.a3⟩
  | _=>⟨x.a0,x.a1,x.a2,v⟩
def Bz.put (x:Bz) (k:Nat) (v:Bool):Bz:=match k with
  | 0=>⟨v,x.a1⟩
  | _=>⟨x.a0,v⟩
theorem Bo.put_put (x:Bo) (u v:Int):∀ k:Nat,k<4→(x.put k u).put k v=x.put k v
  | 0,_=>rfl
  | 1,_=>rfl
  | 2,_=>rfl
  | 3,_=>rfl
  | k+4,h=>by omega
theorem Bz.put_put (x:Bz) (u v:Bool):∀ k:Nat,k<2→(x.put k u).put k v=x.put k v
  | 0,_=>rfl
  | 1,_=>rfl
  | k+2,h=>by omega
def RZ (nb k:Nat) (v:Int) (p:Au×BV):Au×BV :=
  if k<nb then(⟨p.1.holds.put k v,p.1.turns,p.1.spares⟩,⟨p.2.number+min v 1,p.2.sum+v⟩)
  else if k<2*nb then(⟨p.1.holds,p.1.turns.put (k-nb) v,p.1.spares⟩,⟨p.2.number+min (v+1) 1,p.2.sum⟩)
  else(⟨p.1.holds,p.1.turns,p.1.spares.put (k-2*nb) (v == 1)⟩,⟨p.2.number+v,p.2.sum⟩)
section
variable {σ:Type} (see:σ→Au→BV→Option σ)
structure Pr (c:BV) (k:Nat):Prop where
  n0:0≤c.number
  n1:c.number≤k
  s0:0≤c.sum
  s1:c.sum≤2*k
theorem Pr.step {nb k:Nat} {v:Int} {p:Au×BV} (h:Pr p.2 k) (h0:k<nb→0≤v∧v≤2) (h1 : ¬ k<nb→k<2*nb→-1≤v) (h2 : ¬ k<2*nb→0≤v∧v≤1):Pr (RZ nb k v p).2 (k+1):=by
  obtain⟨a,b,c,d⟩:=h
  unfold RZ
  by_cases c1:k<nb
  · have:=h0 c1
    simp only [c1,if_true]
    constructor <;> simp only <;> omega
  · by_cases c2:k<2*nb
    · have:=h1 c1 c2
      simp only [c1,c2,if_true,if_false]
      constructor <;> simp only <;> omega
    · have:=h2 c2
      simp only [c1,c2,if_false]
      constructor <;> simp only <;> omega
end
end Go.Proofs.YtokchpjijlebiaaGreat
namespace Go.Proofs.YtokchpjijlebiaaGreat
open Go Go.RowKit
def SR (b:Bool):Int:=if b then 1 else 0
def enc (a:Av):List Int:=a.holds++a.turns++a.spares.map SR
end Go.Proofs.YtokchpjijlebiaaGreat
namespace Go.Proofs.YtokchpjijlebiaaGreat
open Go Go.RowKit
theorem GX {α:Type} (f:α→Int):∀ (l:List α)(b g:Int),l.foldl (fun b m=>max b (f m)) b≤g↔b≤g∧∀ m∈l,f m≤g
  | [],b,g=>by simp
  | m::l,b,g=>by
    rw [List.foldl_cons,GX f l]
    simp only [List.mem_cons,forall_eq_or_imp]
    constructor
    · rintro⟨h1,h2⟩; exact⟨by omega,by omega,h2⟩
    · rintro⟨h1,h2,h3⟩; exact⟨by omega,h3⟩
theorem EX {m e:Int}:∀ {l:List Rg} {to_:Int},e≤C3 m to_ l↔e≤to_∧∀ p∈l,p.lo>m→e≤p.hi
  | [],to_=>by simp [C3]
  | p::r,to_=>by
    show e≤C3 m (if p.lo>m then min to_ p.hi else to_) r↔_
    rw [EX]
    simp only [List.mem_cons,forall_eq_or_imp]
    by_cases h:p.lo>m
    · simp only [h,if_true,true_implies]
      constructor
      · rintro⟨h1,h2⟩; exact⟨by omega,by omega,h2⟩
      · rintro⟨h1,h2,h3⟩; exact⟨by omega,h3⟩
    · simp only [h,if_false,false_implies,true_and]
theorem QJ {fr to_ g:Int} {l:List Rg}:WR fr to_ l≤g↔0≤g∧∀ m∈E5 fr to_ l,C3 m to_ l-m≤g:=GX _ _ _ _
theorem Qu (fr to_:Int) (l:List Rg):0≤WR fr to_ l:=(QJ.1 (Int.le_refl _)).1
theorem L7 (m to_:Int) (l:List Rg):C3 m to_ l≤to_:=(EX.1 (Int.le_refl _)).1
theorem L8 {fr to_ m:Int} (h0:fr≤m) (h1:m≤to_):∀ l:List Rg,∃ x∈E5 fr to_ l,x≤m∧fr≤x∧∀ p∈l,p.lo≤m→p.lo≤x
  | []=>⟨fr,by simp [E5],h0,Int.le_refl _,by simp⟩
  | p::r=>by
    obtain⟨x,hx,h2,h3,h4⟩:=L8 h0 h1 r
    have sub:∀ z∈E5 fr to_ r,z∈E5 fr to_ (p::r):=fun z hz=>by
      unfold E5 at hz ⊢
      rcases List.mem_cons.1 hz with rfl | hz
      · simp
      · obtain⟨q,hq,rfl⟩:=List.mem_map.1 hz
        rw [List.mem_filter] at hq
        exact List.mem_cons_of_mem _ (List.mem_map_of_mem (List.mem_filter.2 ⟨List.mem_cons_of_mem _ hq.1,hq.2⟩))
    by_cases hp:x<p.lo∧p.lo≤m
    · refine⟨p.lo,?_,hp.2,by omega,fun q hq hqm=>?_⟩
      · unfold E5
        refine List.mem_cons_of_mem _ (List.mem_map_of_mem (List.mem_filter.2 ⟨by simp,?_⟩))
        rw [Bool.and_eq_true,decide_eq_true_eq,decide_eq_true_eq]
        omega
      · rcases List.mem_cons.1 hq with rfl | hq
        · exact Int.le_refl _
        · have:=h4 q hq hqm; omega
    · refine⟨x,sub x hx,h2,h3,fun q hq hqm=>?_⟩
      rcases List.mem_cons.1 hq with rfl | hq
      · omega
      · exact h4 q hq hqm
theorem Sn {fr to_ m:Int} {l:List Rg} (h0:fr≤m) (h1:m≤to_):C3 m to_ l-m≤WR fr to_ l:=by
  obtain⟨x,hx,h2,h3,h4⟩:=L8 h0 h1 l
  have:=(QJ.1 (Int.le_refl (WR fr to_ l))).2 x hx
  have:C3 m to_ l≤C3 x to_ l:=EX.2 ⟨L7 _ _ _,fun p hp hpx=>by
    rcases Int.lt_or_le m p.lo with h | h
    · exact(EX.1 (Int.le_refl (C3 m to_ l))).2 p hp h
    · have:=h4 p hp h; omega⟩
  omega
def SF (l l':List Rg):Prop:=∀ p∈l,∃ p'∈l',p.lo≤p'.lo∧p'.hi≤p.hi
theorem SF.sub {l l':List Rg} (h:∀ p∈l,p∈l'):SF l l':=fun p hp=>⟨p,h p hp,Int.le_refl _,Int.le_refl _⟩
theorem So {fr to_ fr' to':Int} {l l':List Rg} (h:SF l l') (h0:fr≤fr') (h1:fr'≤to') (h2:to'≤to_):WR fr' to' l'≤WR fr to_ l:=QJ.2 ⟨Qu _ _ _,fun m hm=>by
  have hb:=K6 h1 hm
  have:=Sn (fr:=fr) (to_:=to_) (m:=m) (l:=l) (by omega) (by omega)
  have:C3 m to' l'≤C3 m to_ l:=EX.2 ⟨Int.le_trans (L7 _ _ _) h2,fun p hp hpm=>by
    obtain⟨p',hp',h3,h4⟩:=h p hp
    have:=(EX.1 (Int.le_refl (C3 m to' l'))).2 p' hp' (by omega)
    omega⟩
  omega⟩
def maxL:List Int→Int
  | []=>0
  | x::xs=>xs.foldl (fun b x=>max b x) x
theorem PL {l:List Int} {g:Int} (h:l≠[]):maxL l≤g↔∀ w∈l,w≤g:=by
  cases l with
  | nil=>exact absurd rfl h
  | cons x xs =>
    unfold maxL
    rw [GX (fun x=>x)]
    simp
theorem MP (x:List Int) (hx:x.length≤100):∀ (n i:Nat)(b:Int),x.length<n+i→i≤x.length→Bt n x (i:Int) b=some ((x.drop i).foldl (fun b x=>max b x) b)
  | 0,i,b,h,hi=>by omega
  | n+1,i,b,h,hi=>by
    rw [Bt,BG]
    by_cases hxi:i<x.length
    · simp only [hxi,decide_true,cond_true]
      rw [AT _ _ hxi,Option.bind_some,DQ i (by omega),MP x hx n (i+1) _ (by omega) (by omega),AV hxi,List.foldl_cons]
      rw [show(if x[i]>b then x[i] else b)=max b x[i] by omega]
    · have:i=x.length:=by omega
      simp [this]
theorem Qv (n:Nat) (l:List Int) (hn:101<n) (h:l≠[]) (hl:l.length≤100):CW n l=some (maxL l):=by
  cases l with
  | nil=>exact absurd rfl h
  | cons x xs =>
    unfold CW Dp
    have e:=MP (x::xs) hl n 1 x (by omega) (by simp)
    rw [decide_eq_false (by rw [List.length_cons]; omega),cond_false]
    show Option.bind (Option.bind (some x) _) _=_
    rw [Option.bind_some]
    rw [show((1:Nat):Int)=1 from rfl] at e
    rw [e]
    rfl
end Go.Proofs.YtokchpjijlebiaaGreat
namespace Go.Proofs.YtokchpjijlebiaaGreat
open Go Go.RowKit
end Go.Proofs.YtokchpjijlebiaaGreat
namespace Go.Proofs.YtokchpjijlebiaaGreat
open Go Go.RowKit
structure QA (p q:AR×Ay):Prop where
  stop:p.1.stop=q.1.stop
  turned:p.1.turned=q.1.turned
  tm:p.1.tm≤q.1.tm
  turn:p.2.turn≤q.2.turn
  len:p.2.legs.length=q.2.legs.length
  legs:∀ (k:Nat)(d d':Int),p.2.legs[k]? = some d→q.2.legs[k]? = some d'→d≤d'
def GD (st:Int) (p:AR×Ay) (k:Int):Option Int:=BQ (BE st p.1.turned p.2.turn p.2.legs 40 p.1.tm p.1.stop) k
theorem QA.at {p q:AR×Ay} (h:QA p q) {st:Int} (ht:2*p.1.turned+1<st) (k:Int):(GD st p k=none∧GD st q k=none)∨∃ a b,GD st p k=some a∧GD st q k=some b∧a≤b:=by
  unfold GD
  rw [← h.stop,← h.turned]
  exact G9 ht h.len h.legs h.turn 40 _ _ _ k h.tm
theorem Fs {st:Int} {p:(AR×Ay)×(AR×Ay)} {k:Int} {x:Rg}:DC st 40 p k=some x↔GD st p.1 k=some x.lo∧GD st p.2 k=some x.hi:=by
  unfold DC GD
  cases BQ (BE st p.1.1.turned p.1.2.turn p.1.2.legs 40 p.1.1.tm p.1.1.stop) k with
  | none=>simp
  | some a =>
    cases BQ (BE st p.2.1.turned p.2.2.turn p.2.2.legs 40 p.2.1.tm p.2.1.stop) k with
    | none=>simp
    | some b =>
      simp only [Option.some.injEq]
      constructor
      · rintro rfl; exact⟨rfl,rfl⟩
      · rintro⟨h1,h2⟩; cases x; simp_all
theorem K9 {st:Int} {p p':(AR×Ay)×(AR×Ay)} (h1:QA p.1 p'.1) (h2:QA p'.2 p.2) (t1:2*p.1.1.turned+1<st) (t2:2*p'.2.1.turned+1<st) {k:Int} {x:Rg} (h:DC st 40 p k=some x):∃ x',DC st 40 p' k=some x'∧x.lo≤x'.lo∧x'.hi≤x.hi:=by
  obtain⟨a1,a2⟩:=Fs.1 h
  rcases h1.at t1 k with⟨b1,_⟩ | ⟨a,b,b1,b2,b3⟩
  · rw [b1] at a1; cases a1
  · rcases h2.at t2 k with⟨_,c1⟩ | ⟨c,d,c1,c2,c3⟩
    · rw [c1] at a2; cases a2
    · rw [b1] at a1; cases a1
      rw [c2] at a2; cases a2
      exact⟨⟨b,c⟩,Fs.2 ⟨b2,c1⟩,b3,c3⟩
structure R9 (r x:Af):Prop where
  ll:x.legs.length=r.legs.length
  legs:∀ (i:Nat)(a b:Rg),r.legs[i]? = some a→x.legs[i]? = some b→a.lo≤b.lo∧b.lo≤b.hi∧b.hi≤a.hi
  turn:r.turn.lo≤x.turn.lo∧x.turn.lo≤x.turn.hi∧x.turn.hi≤r.turn.hi
  lb:x.buses.length=r.buses.length
  buses:∀ (i:Nat)(a b:Cu),r.buses[i]? = some a→x.buses[i]? = some b→a.stop=b.stop∧a.tm.lo≤b.tm.lo∧b.tm.lo≤b.tm.hi∧b.tm.hi≤a.tm.hi
  spares:x.spares=r.spares
  unit:x.unit=r.unit
  gap:x.gap=r.gap
  fr:x.fr=r.fr
  to_:x.to_=r.to_
theorem R9.valid {r x:Af} (h:R9 r x) (V:Dw r):Dw x:=by
  refine⟨by rw [h.lb]; exact V.nb,by rw [h.spares]; exact V.ns,by rw [h.ll]; exact V.odd,by rw [h.ll]; exact V.nl,?_,by rw [h.unit]; exact V.unit,by rw [h.gap]; exact V.gap,by rw [h.fr,h.to_]; exact V.looked,fun b hb=>?_,fun b hb=>?_,?_⟩
  · have:=V.turn; have:=h.turn; omega
  · obtain⟨i,hi,rfl⟩:=List.mem_iff_getElem.1 hb
    have hi':i<r.legs.length:=by rw [← h.ll]; exact hi
    have:=h.legs i _ _ (List.getElem?_eq_getElem hi') (List.getElem?_eq_getElem hi)
    have:=V.legs _ (List.getElem_mem hi')
    omega
  · obtain⟨i,hi,rfl⟩:=List.mem_iff_getElem.1 hb
    have hi':i<r.buses.length:=by rw [← h.lb]; exact hi
    have:=h.buses i _ _ (List.getElem?_eq_getElem hi') (List.getElem?_eq_getElem hi)
    have:=V.buses _ (List.getElem_mem hi')
    have:=h.ll
    omega
  · rw [h.spares,h.ll]; exact V.spares
theorem R9.acts {r x:Af} (h:R9 r x) (a:Av):Gl x a=Gl r a:=by
  unfold Gl
  rw [h.lb,h.spares]
  congr 1
  rw [Bool.eq_iff_iff,List.all_eq_true,List.all_eq_true]
  have key:∀ i,i<r.buses.length→HD x a i=HD r a i:=fun i hi=>by
    have hi':i<x.buses.length:=by rw [h.lb]; exact hi
    have:=(h.buses i _ _ (List.getElem?_eq_getElem hi) (List.getElem?_eq_getElem hi')).1
    unfold HD
    rw [Cc _ _ hi,Cc _ _ hi',this,h.ll]
  constructor
  · intro H i hi; rw [← key i (by simpa using hi)]; exact H i hi
  · intro H i hi; rw [key i (by simpa using hi)]; exact H i hi
theorem R9.legsLo {r x:Af} (h:R9 r x):∀ (k:Nat)(d d':Int),(r.legs.map Rg.lo)[k]? = some d→(x.legs.map Rg.lo)[k]? = some d'→d≤d':=fun k d d' h1 h2=>by
  rw [List.getElem?_map] at h1 h2
  obtain⟨a,ha,rfl⟩:=Option.map_eq_some_iff.1 h1
  obtain⟨b,hb,rfl⟩:=Option.map_eq_some_iff.1 h2
  exact(h.legs k a b ha hb).1
theorem R9.legsHi {r x:Af} (h:R9 r x):∀ (k:Nat)(d d':Int),(x.legs.map Rg.hi)[k]? = some d→(r.legs.map Rg.hi)[k]? = some d'→d≤d':=fun k d d' h1 h2=>by
  rw [List.getElem?_map] at h1 h2
  obtain⟨a,ha,rfl⟩:=Option.map_eq_some_iff.1 h1
  obtain⟨b,hb,rfl⟩:=Option.map_eq_some_iff.1 h2
  exact(h.legs k b a hb ha).2.2
theorem R9.dom {r x:Af} (h:R9 r x) (V:Dw r) {a:Av} (A:EV r a) (k:Nat):SF (Dx r a k) (Dx x a k):=by
  intro p hp
  have hV:=h.valid V
  unfold Dx at hp ⊢
  obtain⟨P,hP,hs⟩:=List.mem_filterMap.1 hp
  rw [h.ll]
  unfold HF at hP
  rcases List.mem_append.1 hP with hP | hP
  · obtain⟨i,hi,rfl⟩:=List.mem_map.1 hP
    have hi:i<r.buses.length:=by simpa using hi
    have hi':i<x.buses.length:=by rw [h.lb]; exact hi
    have hb:=h.buses i _ _ (List.getElem?_eq_getElem hi) (List.getElem?_eq_getElem hi')
    have o1:=(Jv DD.low V A i hi).t
    have ht:=h.turn
    have L1:QA (Ez r a Rg.lo i) (Ez x a Rg.lo i):=by
      refine⟨?_,rfl,?_,ht.1,by simp [Ez,h.ll],h.legsLo⟩
      · simp only [Ez,Cc _ _ hi,Cc _ _ hi']; exact hb.1
      · simp only [Ez,Cc _ _ hi,Cc _ _ hi',h.unit]; omega
    have L2:QA (Ez x a Rg.hi i) (Ez r a Rg.hi i):=by
      refine⟨?_,rfl,?_,ht.2.2,by simp [Ez,h.ll],h.legsHi⟩
      · simp only [Ez,Cc _ _ hi,Cc _ _ hi']; exact hb.1.symm
      · simp only [Ez,Cc _ _ hi,Cc _ _ hi',h.unit]; omega
    obtain⟨x',e1,e2,e3⟩:=K9 (p:=(Ez r a Rg.lo i,Ez r a Rg.hi i)) (p':=(Ez x a Rg.lo i,Ez x a Rg.hi i)) L1 L2 o1 o1 hs
    refine⟨x',List.mem_filterMap.2 ⟨_,List.mem_append_left _ (List.mem_map_of_mem (List.mem_range.2 hi')),e1⟩,e2,e3⟩
  · obtain⟨j,hj,hc⟩:=List.mem_filterMap.1 hP
    split at hc
    · rename_i hsp
      cases hc
      have hj:j<r.spares.length:=by simpa using hj
      have hj':j<x.spares.length:=by rw [h.spares]; exact hj
      have o1:=(L6 DD.low V j hj).t
      have L1:QA (IF r Rg.lo j) (IF x Rg.lo j):=⟨by simp [IF,h.spares],rfl,by simp [IF,h.spares],Int.le_refl _,by simp [IF,h.ll],h.legsLo⟩
      have L2:QA (IF x Rg.hi j) (IF r Rg.hi j):=⟨by simp [IF,h.spares],rfl,by simp [IF,h.spares],Int.le_refl _,by simp [IF,h.ll],h.legsHi⟩
      obtain⟨x',e1,e2,e3⟩:=K9 (p:=(IF r Rg.lo j,IF r Rg.hi j)) (p':=(IF x Rg.lo j,IF x Rg.hi j)) L1 L2 o1 o1 hs
      refine⟨x',List.mem_filterMap.2 ⟨_,List.mem_append_right _ (List.mem_filterMap.2 ⟨j,List.mem_range.2 hj',by rw [if_pos hsp]⟩),e1⟩,e2,e3⟩
    · cases hc
def Sa (v w:List Int):Prop:=v.length=w.length∧∀ (s:Nat)(x y:Int),v[s]? = some x→w[s]? = some y→x≤y
theorem Sa.maxL {v w:List Int} (h:Sa v w) (hv:v≠[]) (hw:w≠[]):maxL v≤maxL w:=(PL hv).2 fun x hx=>by
  obtain⟨i,hi⟩:=List.mem_iff_getElem?.1 hx
  have hiv:i<v.length:=by
    rcases Nat.lt_or_ge i v.length with h' | h'
    · exact h'
    · rw [List.getElem?_eq_none h'] at hi; cases hi
  have hiw:i<w.length:=by rw [← h.1]; exact hiv
  have:=h.2 i x _ hi (List.getElem?_eq_getElem hiw)
  have:=(PL hw).1 (Int.le_refl _) _ (List.getElem_mem hiw)
  omega
end Go.Proofs.YtokchpjijlebiaaGreat
namespace Go.Proofs.YtokchpjijlebiaaGreat
open Go Go.RowKit
def L9 (st:Nat) (p:AR×Ay):List Int:=(List.range st).map fun(k:Nat)=>(GD (st:Int) p k).getD (-1)
end Go.Proofs.YtokchpjijlebiaaGreat
namespace Go.Proofs.YtokchpjijlebiaaGreat
open Go Go.RowKit
def RA (r:Af) (x:Int):Bool:=decide (r.fr≤x∧x≤r.to_)
def Gg:List Int→Int
  | a::b::r=>max (b-a) (Gg (b::r))
  | _=>0
theorem HG:∀ l:List Int,0≤Gg l
  | []=>Int.le_refl _
  | [_]=>Int.le_refl _
  | a::b::r=>by
    have:=HG (b::r)
    unfold Gg
    omega
theorem PM {g:Int} (h0:0≤g):∀ {l:List Int},l.Pairwise (· < ·)→(∀ a∈l,∀ b∈l,a<b→(∀ c∈l,¬ (a<c∧c<b))→b-a≤g)→Gg l≤g
  | [],_,_=>h0
  | [_],_,_=>h0
  | a::b::r,hs,h=>by
    rw [List.pairwise_cons] at hs
    have hab:=hs.1 b (by simp)
    have h1:=h a (by simp) b (by simp) hab fun c hc hcc=>by
      rcases List.mem_cons.1 hc with rfl | hc
      · omega
      · rcases List.mem_cons.1 hc with rfl | hc
        · omega
        · have:=(List.pairwise_cons.1 hs.2).1 c hc
          omega
    have h2:Gg (b::r)≤g:=PM h0 hs.2 fun x hx y hy hxy hno=>h x (List.mem_cons_of_mem _ hx) y (List.mem_cons_of_mem _ hy) hxy fun c hc hcc=>by
      rcases List.mem_cons.1 hc with rfl | hc
      · have:=hs.1 x hx; omega
      · exact hno c hc hcc
    unfold Gg
    omega
theorem PN {m e:Int}:∀ {l:List Int},l.Pairwise (· < ·)→m∈l→m<e→(∃ b∈l,e≤b)→(∀ c∈l,¬ (m<c∧c<e))→e-m≤Gg l
  | [],_,hm,_,_,_=>by simp at hm
  | [a],hs,hm,he,⟨b,hb,heb⟩,_=>by
    simp at hm hb
    omega
  | a::b::r,hs,hm,he,⟨y,hy,hye⟩,hno=>by
    rw [List.pairwise_cons] at hs
    have hab:=hs.1 b (by simp)
    have hbe:=hno b (by simp)
    rcases List.mem_cons.1 hm with rfl | hm
    · unfold Gg
      omega
    · have hm2:=hs.1 m hm
      have:=PN hs.2 hm he (by
        rcases List.mem_cons.1 hy with rfl | hy
        · omega
        · exact⟨y,hy,hye⟩) fun c hc=>hno c (List.mem_cons_of_mem _ hc)
      unfold Gg
      omega
def Ep (r:Af) (a:Av) (t:Aw) (s:Nat):List Int:=r.fr::r.to_::(((CF r a t).map (L9 (r.legs.length+1))).map fun p=>p[s]!).filter (RA r)
end Go.Proofs.YtokchpjijlebiaaGreat
namespace Go.Proofs.YtokchpjijlebiaaGreat
open Go Go.RowKit
structure Ft (r:Af) (t:Aw):Prop where
  tm:t.tm.length=r.buses.length
  tt:t.turns.length=r.buses.length
  legs:t.legs.length=r.buses.length+r.spares.length
  tms:∀ i<r.buses.length,(r.buses[i]!).tm.lo≤t.tm[i]!∧t.tm[i]!≤(r.buses[i]!).tm.hi
  tts:∀ i<r.buses.length,r.turn.lo≤t.turns[i]!∧t.turns[i]!≤r.turn.hi
  ll:∀ i<r.buses.length+r.spares.length,(t.legs[i]!).length=r.legs.length
  leg:∀ i<r.buses.length+r.spares.length,∀ (k:Nat)(x:Rg)(d:Int),r.legs[k]? = some x→(t.legs[i]!)[k]? = some d→x.lo≤d∧d≤x.hi
theorem Ft.sized {r:Af} {t:Aw} (h:Ft r t) (V:Dw r) {a:Av} (A:EV r a):MK r a t:=by
  refine⟨by have:=V.nb; omega,by have:=V.ns; omega,A.holds,A.turns,A.spares,h.tm,h.tt,h.legs,fun x hx=>?_,V.unit,fun x hx=>?_⟩
  · obtain⟨i,hi,rfl⟩:=List.mem_iff_getElem.1 hx
    have:=A.hold i (by rw [← A.holds]; exact hi)
    rwa [Cc _ _ hi] at this
  · obtain⟨i,hi,rfl⟩:=List.mem_iff_getElem.1 hx
    have hib:i<r.buses.length:=by rw [← h.tm]; exact hi
    have:=h.tms i hib
    rw [Cc _ _ hi,Cc _ _ hib] at this
    have:=V.buses _ (List.getElem_mem hib)
    omega
theorem PO {r:Af} {t:Aw} (h:Ft r t) {i:Nat} (hi:i<r.buses.length+r.spares.length):∀ (k:Nat)(d d':Int),(r.legs.map Rg.lo)[k]? = some d→(t.legs[i]!)[k]? = some d'→d≤d':=fun k d d' h1 h2=>by
  rw [List.getElem?_map] at h1
  obtain⟨x,hx,rfl⟩:=Option.map_eq_some_iff.1 h1
  exact(h.leg i hi k x d' hx h2).1
theorem PP {r:Af} {t:Aw} (h:Ft r t) {i:Nat} (hi:i<r.buses.length+r.spares.length):∀ (k:Nat)(d d':Int),(t.legs[i]!)[k]? = some d→(r.legs.map Rg.hi)[k]? = some d'→d≤d':=fun k d d' h1 h2=>by
  rw [List.getElem?_map] at h2
  obtain⟨x,hx,rfl⟩:=Option.map_eq_some_iff.1 h2
  exact(h.leg i hi k x d hx h1).2
theorem Ft.small {r:Af} {t:Aw} (h:Ft r t) (V:Dw r) {i:Nat} (hi:i<r.buses.length+r.spares.length):(t.legs[i]!).length≤20∧∀ d∈t.legs[i]!,0≤d∧d≤300:=by
  have hl:=h.ll i hi
  have:=V.nl
  refine⟨by omega,fun d hd=>?_⟩
  obtain⟨k,hk,rfl⟩:=List.mem_iff_getElem.1 hd
  have hkr:k<r.legs.length:=by omega
  have:=h.leg i hi k _ _ (List.getElem?_eq_getElem hkr) (List.getElem?_eq_getElem hk)
  have:=V.legs _ (List.getElem_mem hkr)
  omega
theorem Ft.busT {r:Af} {t:Aw} (h:Ft r t) (V:Dw r) {a:Av} (A:EV r a) {i:Nat} (hi:i<r.buses.length):EU r (C1 r a t i)∧QA (Ez r a Rg.lo i) (C1 r a t i)∧QA (C1 r a t i) (Ez r a Rg.hi i):=by
  have o:=Jv DD.low V A i hi
  have h1:=h.tms i hi
  have h2:=h.tts i hi
  have h3:=h.ll i (by omega)
  have h4:=h.small V (i:=i) (by omega)
  have hT:=V.turn
  have hb:=V.buses _ (List.getElem_mem hi)
  have hh:=A.hold i hi
  have hm:=Kg hh.1 hh.2 V.unit.1 V.unit.2
  rw [Cc _ _ hi] at h1
  refine⟨⟨⟨by simp only [C1]; omega,by simp only [C1]; omega,h4.1,h4.2⟩,h3,o.t,by simp only [C1]; omega,by simp only [C1]; omega,o.s0,o.s1⟩,⟨rfl,rfl,?_,h2.1,(by rw [show(C1 r a t i).2.legs=t.legs[i]! from rfl,h3]; simp [Ez]),PO h (by omega)⟩,⟨rfl,rfl,?_,h2.2,(by rw [show(C1 r a t i).2.legs=t.legs[i]! from rfl,h3]; simp [Ez]),PP h (by omega)⟩⟩ <;>
  · simp only [Ez,C1,Cc _ _ hi]; omega
theorem Ft.spT {r:Af} {t:Aw} (h:Ft r t) (V:Dw r) {j:Nat} (hj:j<r.spares.length):EU r (⟨(r.spares[j]!).stop,(r.spares[j]!).tm,-1⟩,⟨t.legs[r.buses.length+j]!,0⟩)∧QA (IF r Rg.lo j) (⟨(r.spares[j]!).stop,(r.spares[j]!).tm,-1⟩,⟨t.legs[r.buses.length+j]!,0⟩)∧QA (⟨(r.spares[j]!).stop,(r.spares[j]!).tm,-1⟩,⟨t.legs[r.buses.length+j]!,0⟩) (IF r Rg.hi j):=by
  have o:=L6 DD.low V j hj
  have h3:=h.ll (r.buses.length+j) (by omega)
  have h4:=h.small V (i:=r.buses.length+j) (by omega)
  exact⟨⟨⟨Int.le_refl _,by simp,h4.1,h4.2⟩,h3,o.t,o.tm0,o.tm1,o.s0,o.s1⟩,⟨rfl,rfl,Int.le_refl _,Int.le_refl _,(by simp only []; rw [h3]; simp [IF]),PO h (by omega)⟩,⟨rfl,rfl,Int.le_refl _,Int.le_refl _,(by simp only []; rw [h3]; simp [IF]),PP h (by omega)⟩⟩
theorem Kk {r:Af} {a:Av} {t:Aw} {p:AR×Ay}:p∈CF r a t↔(∃ i<r.buses.length,p=C1 r a t i)∨∃ j<r.spares.length,a.spares[j]! = true∧p=(⟨(r.spares[j]!).stop,(r.spares[j]!).tm,-1⟩,⟨t.legs[r.buses.length+j]!,0⟩):=by
  unfold CF
  rw [List.mem_append,List.mem_map,List.mem_filterMap]
  constructor
  · rintro(⟨i,hi,rfl⟩ | ⟨j,hj,h⟩)
    · exact .inl ⟨i,List.mem_range.1 hi,rfl⟩
    · unfold GU at h
      split at h
      · rename_i hs
        cases h
        exact .inr ⟨j,List.mem_range.1 hj,hs,rfl⟩
      · cases h
  · rintro(⟨i,hi,rfl⟩ | ⟨j,hj,hs,rfl⟩)
    · exact .inl ⟨i,List.mem_range.2 hi,rfl⟩
    · exact .inr ⟨j,List.mem_range.2 hj,by unfold GU; rw [if_pos hs]⟩
theorem Ps {r:Af} {a:Av} {s:Nat} {q:Rg}:q∈Dx r a s↔(∃ i<r.buses.length,GD ((r.legs.length:Int)+1) (Ez r a Rg.lo i) s=some q.lo∧GD ((r.legs.length:Int)+1) (Ez r a Rg.hi i) s=some q.hi) ∨
    ∃ j<r.spares.length,a.spares[j]! = true∧GD ((r.legs.length:Int)+1) (IF r Rg.lo j) s=some q.lo∧GD ((r.legs.length:Int)+1) (IF r Rg.hi j) s=some q.hi:=by
  unfold Dx HF
  rw [List.mem_filterMap]
  constructor
  · rintro⟨P,hP,h⟩
    rw [Fs] at h
    rcases List.mem_append.1 hP with hP | hP
    · obtain⟨i,hi,rfl⟩:=List.mem_map.1 hP
      exact .inl ⟨i,List.mem_range.1 hi,h⟩
    · obtain⟨j,hj,hc⟩:=List.mem_filterMap.1 hP
      split at hc
      · rename_i hs
        cases hc
        exact .inr ⟨j,List.mem_range.1 hj,hs,h⟩
      · cases hc
  · rintro(⟨i,hi,h⟩ | ⟨j,hj,hs,h⟩)
    · exact⟨_,List.mem_append_left _ (List.mem_map_of_mem (List.mem_range.2 hi)),Fs.2 h⟩
    · exact⟨_,List.mem_append_right _ (List.mem_filterMap.2 ⟨j,List.mem_range.2 hj,by rw [if_pos hs]⟩),Fs.2 h⟩
theorem Ft.ok {r:Af} {t:Aw} (h:Ft r t) (V:Dw r) {a:Av} (A:EV r a):∀ p∈CF r a t,EU r p:=fun p hp=>by
  rcases Kk.1 hp with⟨i,hi,rfl⟩ | ⟨j,hj,_,rfl⟩
  · exact(h.busT V A hi).1
  · exact(h.spT V hj).1
theorem Ft.pass {r:Af} {t:Aw} (h:Ft r t) (V:Dw r) {a:Av} (A:EV r a) {s:Nat} {q:Rg} (hq:q∈Dx r a s):∃ p∈CF r a t,∃ x,GD ((r.legs.length:Int)+1) p s=some x∧q.lo≤x∧x≤q.hi:=by
  rcases Ps.1 hq with⟨i,hi,h1,h2⟩ | ⟨j,hj,hs,h1,h2⟩
  · obtain⟨o,l1,l2⟩:=h.busT V A hi
    have o1:=(Jv DD.low V A i hi).t
    rcases l1.at o1 s with⟨e,_⟩ | ⟨u,x,e1,e2,e3⟩
    · rw [e] at h1; cases h1
    · rcases l2.at o.t s with⟨e,_⟩ | ⟨x',v,f1,f2,f3⟩
      · rw [e] at e2; cases e2
      · rw [e1] at h1; cases h1
        rw [f2] at h2; cases h2
        rw [f1] at e2; cases e2
        exact⟨_,Kk.2 (.inl ⟨i,hi,rfl⟩),_,f1,e3,f3⟩
  · obtain⟨o,l1,l2⟩:=h.spT V hj
    have o1:=(L6 DD.low V j hj).t
    rcases l1.at o1 s with⟨e,_⟩ | ⟨u,x,e1,e2,e3⟩
    · rw [e] at h1; cases h1
    · rcases l2.at o.t s with⟨e,_⟩ | ⟨x',v,f1,f2,f3⟩
      · rw [e] at e2; cases e2
      · rw [e1] at h1; cases h1
        rw [f2] at h2; cases h2
        rw [f1] at e2; cases e2
        exact⟨_,Kk.2 (.inr ⟨j,hj,hs,rfl⟩),_,f1,e3,f3⟩
theorem Dc {r:Af} (V:Dw r) {a:Av} {t:Aw} {s:Nat} (hs:s<r.legs.length+1) {y:Int}:y∈Ep r a t s↔y=r.fr∨y=r.to_∨(∃ p∈CF r a t,GD ((r.legs.length:Int)+1) p s=some y)∧r.fr≤y∧y≤r.to_:=by
  have hl:=V.looked
  unfold Ep
  rw [List.mem_cons,List.mem_cons,List.mem_filter,List.mem_map]
  refine or_congr Iff.rfl (or_congr Iff.rfl ?_)
  have key:∀ p:AR×Ay,(L9 (r.legs.length+1) p)[s]! = (GD ((r.legs.length:Int)+1) p s).getD (-1):=fun p=>by
    rw [Cc _ _ (by unfold L9; simp; omega)]
    unfold L9
    rw [List.getElem_map,List.getElem_range]
    rfl
  constructor
  · rintro⟨⟨l,hl1,rfl⟩,hin⟩
    obtain⟨p,hp,rfl⟩:=List.mem_map.1 hl1
    unfold RA at hin
    have hin:=of_decide_eq_true hin
    rw [key] at hin ⊢
    cases he:GD ((r.legs.length:Int)+1) p s with
    | none=>rw [he] at hin; simp at hin; omega
    | some x=>rw [he] at hin; exact⟨⟨p,hp,he⟩,hin⟩
  · rintro⟨⟨p,hp,he⟩,hin⟩
    exact⟨⟨_,List.mem_map_of_mem hp,by rw [key,he]; rfl⟩,by unfold RA; exact decide_eq_true hin⟩
end Go.Proofs.YtokchpjijlebiaaGreat
namespace Go.Proofs.YtokchpjijlebiaaGreat
open Go Go.RowKit
theorem Oq {zs:List Int} {y:Int}:y∈Lib.compact zs↔y∈zs:=by
  unfold Lib.compact Lib.compactUpTo
  rw [List.mem_map]
  constructor
  · rintro⟨j,hj,rfl⟩
    rw [List.mem_filter,List.mem_range] at hj
    have:zs.toArray[j]! = zs[j]:=getElem!_pos zs.toArray j (by simpa using hj.1)
    rw [this]
    exact List.getElem_mem _
  · intro hy
    obtain⟨j,hj,he⟩:=List.mem_iff_getElem.1 hy
    -- the first place
    have key:∀ k,(∃ j,∃ h:j<zs.length,zs[j]=y∧j<k)→∃ j,∃ h:j<zs.length,zs[j]=y∧Lib.keeps zs.toArray j=true:=by
      intro k
      induction k with
      | zero=>rintro⟨_,_,_,h⟩; omega
      | succ k ih =>
        rintro⟨j,hj,he,hjk⟩
        by_cases h0:Lib.keeps zs.toArray j=true
        · exact⟨j,hj,he,h0⟩
        · unfold Lib.keeps at h0
          simp only [decide_eq_true_eq,not_or,ne_eq,Decidable.not_not] at h0
          obtain⟨h1,h2⟩:=h0
          have e1:zs.toArray[j]! = zs[j]:=getElem!_pos zs.toArray j (by simpa using hj)
          have e2:zs.toArray[j-1]! = zs[j-1]:=getElem!_pos zs.toArray (j-1) (by simp; omega)
          rw [e1,e2] at h2
          exact ih ⟨j-1,by omega,by rw [← h2]; exact he,by omega⟩
    obtain⟨j,hj,he,hk⟩:=key (j+1) ⟨j,hj,he,by omega⟩
    exact⟨j,List.mem_filter.2 ⟨List.mem_range.2 hj,hk⟩,by rw [← he]; exact getElem!_pos zs.toArray j (by simpa using hj)⟩
theorem LA {zs:List Int} (hs:zs.Pairwise (·≤·)):(Lib.compact zs).Pairwise (· < ·):=by
  unfold Lib.compact Lib.compactUpTo
  rw [List.pairwise_map]
  have h1:((List.range zs.length).filter (Lib.keeps zs.toArray)).Pairwise (· < ·):=List.Pairwise.sublist List.filter_sublist List.pairwise_lt_range
  refine h1.imp_of_mem fun {i j} hi hj hij=>?_
  rw [List.mem_filter,List.mem_range] at hi hj
  have e1:zs.toArray[i]! = zs[i]:=getElem!_pos zs.toArray i (by simpa using hi.1)
  have e2:zs.toArray[j]! = zs[j]:=getElem!_pos zs.toArray j (by simpa using hj.1)
  have e3:zs.toArray[j-1]! = zs[j-1]:=getElem!_pos zs.toArray (j-1) (by simp; omega)
  have hk:=hj.2
  unfold Lib.keeps at hk
  simp only [decide_eq_true_eq] at hk
  rcases hk with hk | hk
  · omega
  rw [e2,e3] at hk
  rw [e1,e2]
  have a1:zs[i]≤zs[j-1]:=by
    rcases Nat.lt_or_ge i (j-1) with h | h
    · exact List.pairwise_iff_getElem.1 hs i (j-1) hi.1 (by omega) h
    · have:i=j-1:=by omega
      subst this; exact Int.le_refl _
  have a2:zs[j-1]≤zs[j]:=List.pairwise_iff_getElem.1 hs (j-1) j (by omega) hj.1 (by omega)
  omega
theorem N0 (l:List Int):(Dz l).Pairwise (·≤·):=by
  have:=List.pairwise_mergeSort (le:=fun x y:Int=>decide (x≤y)) (fun a b c h1 h2=>by simp at *; omega) (fun a b=>by simp; omega) l
  unfold Dz
  exact this.imp fun h=>by simpa using h
theorem Qw {l:List Int} {y:Int}:y∈Dz l↔y∈l:=List.mem_mergeSort
def N1 (ms:List (List Int)) (P:Nat→Int→Prop) (B:Nat):Prop:=∀ k l,ms[k]? = some l→l.length≤B∧∀ y,y∈l↔P k y
def gM (n:Nat) (r:Af) (s:List (List Int)) (a b:Int):Option (List (List Int)):=((A1 n r b).bind fun x63 =>
    (bif x63 then
    ((Cq s a).bind fun x68 =>
    ((I5 x68 ([b]:List Int)).bind fun x72 =>
    ((Cq s a).bind fun x73 =>
    ((upd s a x72).bind fun u_376 =>
    some u_376))))
    else
    some s))
theorem Qx (n:Nat) (r:Af) (x:Int):A1 n r x=some (RA r x):=by
  unfold A1
  rw [FN]; rfl
theorem SG (n:Nat) (r:Af) (ms:List (List Int)) (s:Nat) (t:Int) (P:Nat→Int→Prop) (B:Nat) (hs:s<ms.length) (hI:N1 ms P B) (hB:B<1000000):∃ ms',gM n r ms (s:Int) t=some ms'∧ms'.length=ms.length∧N1 ms' (fun k y=>P k y∨(k=s∧y=t∧RA r y=true)) (B+1):=by
  unfold gM
  rw [Qx,Option.bind_some]
  cases hin:RA r t with
  | false =>
    refine⟨ms,rfl,rfl,fun k l hk=>?_⟩
    obtain⟨h1,h2⟩:=hI k l hk
    refine⟨by omega,fun y=>?_⟩
    rw [h2]
    constructor
    · exact .inl
    · rintro(h | ⟨_,rfl,h⟩)
      · exact h
      · rw [hin] at h; cases h
  | true =>
    have h0:=hI s _ (List.getElem?_eq_getElem hs)
    rw [cond_true,AT _ _ hs,Option.bind_some,DB _ _ (by simp; omega),Option.bind_some,Option.bind_some,Pn _ _ _ hs,Option.bind_some]
    refine⟨_,rfl,by simp,fun k l hk=>?_⟩
    by_cases hks:s=k
    · subst hks
      rw [List.getElem?_set_self hs] at hk
      cases hk
      refine⟨by simp; omega,fun y=>?_⟩
      rw [List.mem_append,h0.2,List.mem_singleton]
      constructor
      · rintro(h | rfl)
        · exact .inl h
        · exact .inr ⟨rfl,rfl,hin⟩
      · rintro(h | ⟨_,h,_⟩)
        · exact .inl h
        · exact .inr h
    · rw [List.getElem?_set_ne hks] at hk
      obtain⟨h1,h2⟩:=hI k l hk
      refine⟨by omega,fun y=>?_⟩
      rw [h2]
      constructor
      · exact .inl
      · rintro(h | ⟨h,_⟩)
        · exact h
        · exact absurd h.symm hks
theorem N1.imp {ms:List (List Int)} {P Q:Nat→Int→Prop} {B C:Nat} (h:N1 ms P B) (hPQ:∀ k y,P k y↔Q k y) (hB:B≤C):N1 ms Q C:=fun k l hk=>⟨Nat.le_trans (h k l hk).1 hB,fun y=>((h k l hk).2 y).trans (hPQ k y)⟩
theorem LB (n:Nat) (r:Af):∀ (pl:List (Int×Int))(ms:List (List Int))(P:Nat→Int→Prop)(B:Nat),(∀ p∈pl,0≤p.1∧p.1<(ms.length:Int))→N1 ms P B→B+pl.length<1000000 →
    ∃ ms',pl.foldlM (fun x p=>gM n r x p.1 p.2) ms=some ms'∧ms'.length=ms.length∧N1 ms' (fun k y=>P k y∨(((k:Int),y)∈pl∧RA r y=true)) (B+pl.length)
  | [],ms,P,B,_,hI,_=>⟨ms,rfl,rfl,hI.imp (fun k y=>by simp) (by simp)⟩
  | p::pl,ms,P,B,hp,hI,hB=>by
    have h1:=hp p (by simp)
    simp only [List.length_cons] at hB
    obtain⟨m1,e1,l1,I1⟩:=SG n r ms p.1.toNat p.2 P B (by omega) hI (by omega)
    rw [show((p.1.toNat:Nat):Int)=p.1 by omega] at e1
    obtain⟨m2,e2,l2,I2⟩:=LB n r pl m1 _ _ (fun q hq=>by rw [l1]; exact hp q (List.mem_cons_of_mem _ hq)) I1 (by omega)
    refine⟨m2,?_,by omega,I2.imp (fun k y=>?_) (by simp; omega)⟩
    · rw [List.foldlM_cons,e1]; exact e2
    · rw [List.mem_cons]
      constructor
      · rintro((h | ⟨h,h2,h3⟩) | ⟨h,h2⟩)
        · exact .inl h
        · refine .inr ⟨.inl ?_,h3⟩
          rw [h2,h]
          exact Prod.ext (by simp only []; omega) rfl
        · exact .inr ⟨.inr h,h2⟩
      · rintro(h | ⟨h | h,h2⟩)
        · exact .inl (.inl h)
        · refine .inl (.inr ⟨?_,?_,h2⟩)
          · have:=congrArg Prod.fst h; simp only [] at this; omega
          · exact congrArg Prod.snd h
        · exact .inr ⟨h,h2⟩
theorem MQ (w:AE) (x18:List (List Int)) (hb:x18.length≤50):∀ (n i:Nat)(x:List (List Int)),x18.length<n+i→i≤x18.length→x.length=x18.length→(∀ k,k<i→x[k]? = some [w.route.fr,w.route.to_])→Bb n w x18 x (i:Int)=some (List.replicate x18.length [w.route.fr,w.route.to_])
  | 0,i,x,h,hi,_,_=>by omega
  | n+1,i,x,h,hi,hl,hk=>by
    rw [Bb,BG]
    by_cases hx:i<x18.length
    · simp only [hx,decide_true,cond_true]
      rw [AT _ _ (by omega),Option.bind_some,Pn _ _ _ (by omega),Option.bind_some,DQ i (by omega)]
      refine MQ w x18 hb n (i+1) _ (by omega) (by omega) (by simp [hl]) fun k hk'=>?_
      rw [List.getElem?_set]
      by_cases hki:i=k
      · subst hki; simp; omega
      · rw [if_neg hki]; exact hk k (by omega)
    · simp only [hx,decide_false,cond_false,Option.some.injEq]
      apply List.ext_getElem?
      intro k
      rw [List.getElem?_replicate]
      split
      · exact hk k (by omega)
      · exact List.getElem?_eq_none (by omega)
theorem Iv {st turned turn:Int} {legs:List Int}:∀ (n:Nat)(tm s:Int),(BE st turned turn legs n tm s).length≤n
  | 0,_,_=>by simp [BE]
  | n+1,tm,s=>by
    rw [BE]
    split
    · rw [List.length_cons]
      split
      · have:=Iv (st:=st) (turned:=turned) (turn:=turn) (legs:=legs) n (tm+turn) (st-1-s); omega
      · split
        · rename_i d _
          have:=Iv (st:=st) (turned:=turned) (turn:=turn) (legs:=legs) n (tm+d) (s+1); omega
        · simp
    · simp
theorem Qy {r:Af} {p:AR×Ay} (o:EU r p) {n:Nat} (hn:30≤n) (hl:r.legs.length≤20) (k:Nat) (y:Int):((k:Int),y)∈BE ((r.legs.length:Int)+1) p.1.turned p.2.turn p.2.legs n p.1.tm p.1.stop↔GD ((r.legs.length:Int)+1) p k=some y:=by
  have h0:=o.s0
  rw [FT o.t n 40 _ _ (by omega) (by omega)]
  unfold GD
  constructor
  · intro h
    obtain⟨j,hj⟩:=List.mem_iff_getElem?.1 h
    exact LY (Fq o.t 40 _ _) hj
  · exact MJ
theorem MR (w:AE) (l:List (AR×Ay)) (hl:w.route.legs.length≤20) (hok:∀ p∈l,EU w.route p) (h20:l.length≤20):∀ (n i:Nat)(ms:List (List Int))(P:Nat→Int→Prop)(B:Nat),l.length+30<n+i→n≤1000→i≤l.length→ms.length=w.route.legs.length+1→N1 ms P B→B≤1000*i+10 →
    ∃ ms',Bc n w (l.map Prod.fst,l.map Prod.snd) ms (i:Int)=some ms'∧ms'.length=w.route.legs.length+1∧N1 ms' (fun k y=>P k y∨((∃ p∈l.drop i,GD ((w.route.legs.length:Int)+1) p k=some y)∧RA w.route y=true)) 30000
  | 0,i,ms,P,B,h,_,hi,_,_,_=>by omega
  | n+1,i,ms,P,B,h,hn,hi,hm,hI,hB=>by
    rw [Bc]
    simp only []
    rw [BG,List.length_map]
    by_cases hx:i<l.length
    · have o:=hok _ (List.getElem_mem hx)
      simp only [hx,decide_true,cond_true]
      rw [AT _ i (by simpa using hx),AT _ i (by simpa using hx)]
      simp only [Option.bind_some,List.getElem_map,B2]
      obtain⟨m1,e1,l1,I1⟩:=LB n w.route (BE ((w.route.legs.length:Int)+1) l[i].1.turned l[i].2.turn l[i].2.legs n l[i].1.tm l[i].1.stop) ms P B (fun p hp=>by
        have:=E4 o.t n _ _ p hp
        rw [hm]; constructor <;> omega) hI (by have:=Iv (st:=(w.route.legs.length:Int)+1) (turned:=l[i].1.turned) (turn:=l[i].2.turn) (legs:=l[i].2.legs) n l[i].1.tm l[i].1.stop; omega)
      have e2:=Kf n (fun s a b=>(gM n w.route s a b).bind fun s1=>some (s1,true)) (gM n w.route) (fun s a b=>Gz (gM n w.route s a b)) l[i].1 w.route l[i].2 ms hl o.q o.len o.t o.tm0 o.tm1 (by omega) (by omega) o.s0 o.s1
      rw [e1] at e2
      have hpl:=Iv (st:=(w.route.legs.length:Int)+1) (turned:=l[i].1.turned) (turn:=l[i].2.turn) (legs:=l[i].2.legs) n l[i].1.tm l[i].1.stop
      obtain⟨m2,f1,f2,f3⟩:=MR w l hl hok h20 n (i+1) m1 _ _ (by omega) (by omega) (by omega) (by rw [l1,hm]) I1 (by omega)
      refine⟨m2,?_,f2,f3.imp (fun k y=>?_) (Nat.le_refl _)⟩
      · show((AH n (fun s a b=>(gM n w.route s a b).bind fun s1=>some (s1,true)) ms l[i].1 w.route l[i].2).bind _)=_
        rw [e2,Option.bind_some,DQ i (by omega)]
        exact f1
      · rw [AV hx,Qy o (by omega) hl]
        constructor
        · rintro((h | ⟨h,h2⟩) | ⟨⟨p,hp,h⟩,h2⟩)
          · exact .inl h
          · exact .inr ⟨⟨_,List.mem_cons_self,h⟩,h2⟩
          · exact .inr ⟨⟨p,List.mem_cons_of_mem _ hp,h⟩,h2⟩
        · rintro(h | ⟨⟨p,hp,h⟩,h2⟩)
          · exact .inl (.inl h)
          · rcases List.mem_cons.1 hp with rfl | hp
            · exact .inl (.inr ⟨h,h2⟩)
            · exact .inr ⟨⟨p,hp,h⟩,h2⟩
    · have hi':i=l.length:=by omega
      have hd:l.drop i=[]:=List.drop_eq_nil_of_le (by omega)
      simp only [hx,decide_false,cond_false]
      exact⟨ms,rfl,hm,hI.imp (fun k y=>by rw [hd]; simp) (by omega)⟩
theorem MS (o:List (List Int)) (hb:o.length≤50):∀ (n i:Nat)(x:List (List Int)),o.length<n+i→i≤o.length→x.length=o.length→(∀ (k:Nat) l,o[k]? = some l→l.length≤1000000∧x[k]? = some (if k<i then Lib.compact (Dz l) else l)) →
    Bd n o x (i:Int)=some (o.map fun l=>Lib.compact (Dz l))
  | 0,i,x,h,hi,_,_=>by omega
  | n+1,i,x,h,hi,hl,hk=>by
    rw [Bd,BG]
    by_cases hx:i<o.length
    · simp only [hx,decide_true,cond_true]
      obtain⟨h1,h2⟩:=hk i _ (List.getElem?_eq_getElem hx)
      rw [if_neg (by omega)] at h2
      have hix:i<x.length:=by omega
      have e0:Cq x (i:Int)=some o[i]:=by rw [Sm,h2]
      have e1:ON o[i]=some (Dz o[i]):=by unfold ON; rw [if_pos (by omega)]
      have e2:OP (Dz o[i])=some (Lib.compact (Dz o[i])):=by unfold OP; rw [if_pos (by rw [I7]; omega)]
      have e3:Cq (x.set i (Dz o[i])) (i:Int)=some (Dz o[i]):=by rw [Sm,List.getElem?_set_self hix]
      rw [e0,Option.bind_some,e1,Option.bind_some,Pn _ _ _ hix,Option.bind_some,e3,Option.bind_some,e2,Option.bind_some,Option.bind_some,Pn _ _ _ (by simpa using hix),Option.bind_some,List.set_set,DQ i (by omega)]
      refine MS o hb n (i+1) _ (by omega) (by omega) (by simp [hl]) fun k l hkl=>?_
      obtain⟨g1,g2⟩:=hk k l hkl
      refine⟨g1,?_⟩
      rw [List.getElem?_set]
      by_cases hki:i=k
      · subst hki
        have:o[i]=l:=by rw [List.getElem?_eq_getElem hx] at hkl; exact Option.some.inj hkl
        rw [if_pos rfl,if_pos hix,if_pos (by omega),this]
      · rw [if_neg hki,g2]
        by_cases hlt:k<i
        · rw [if_pos hlt,if_pos (by omega)]
        · rw [if_neg hlt,if_neg (by omega)]
    · simp only [hx,decide_false,cond_false,Option.some.injEq]
      apply List.ext_getElem?
      intro k
      rw [List.getElem?_map]
      cases hok:o[k]? with
      | none=>rw [List.getElem?_eq_none (by have:=List.getElem?_eq_none_iff.1 hok; omega)]; rfl
      | some l =>
        rw [(hk k l hok).2,if_pos (by have:=(List.getElem?_eq_some_iff.1 hok).1; omega)]; rfl
theorem QK (n:Nat) (r:Af) (a:Av) (t:Aw) (V:Dw r) (S:MK r a t) (hok:∀ p∈CF r a t,EU r p) (hn:90≤n) (hn2:n≤900) :
    ∃ ml,Cg n ⟨r,a⟩ t=some ml∧ml.length=r.legs.length+1∧∀ (s:Nat) l,ml[s]? = some l→l.Pairwise (· < ·)∧(∀ y,y∈l↔y∈Ep r a t s)∧l.length≤30000:=by
  have:=V.nl
  have:=S.nb
  have:=S.ns
  have hlt:(CF r a t).length≤r.buses.length+r.spares.length:=by
    unfold CF
    rw [List.length_append,List.length_map,List.length_range]
    have:=List.length_filterMap_le (GU r a t) (List.range r.spares.length)
    rw [List.length_range] at this
    omega
  unfold Cg
  simp only []
  rw [CT n r (by omega),Option.bind_some]
  have eM:mk ((r.legs.length:Int)+1) ([]:List Int)=some (List.replicate (r.legs.length+1) []):=by
    rw [show((r.legs.length:Int)+1)=((r.legs.length+1:Nat):Int) by omega]; exact SP _ _ (by omega)
  rw [eM,Option.bind_some]
  have e1:=MQ ⟨r,a⟩ (List.replicate (r.legs.length+1) []) (by simp; omega) n 0 (List.replicate (r.legs.length+1) []) (by simp; omega) (by omega) rfl (fun k hk=>by omega)
  rw [Int.natCast_zero,List.length_replicate] at e1
  rw [e1,Option.bind_some,Lx n r a t S (by omega),Option.bind_some]
  obtain⟨m2,f1,f2,f3⟩:=MR ⟨r,a⟩ (CF r a t) (by simp only; omega) hok (by omega) n 0 (List.replicate (r.legs.length+1) [r.fr,r.to_]) (fun _ y=>y=r.fr∨y=r.to_) 2 (by omega) (by omega) (by omega) (by simp) (fun k l hk=>by
    rw [List.getElem?_replicate] at hk
    split at hk
    · cases hk; exact⟨Nat.le_refl _,fun y=>by simp⟩
    · cases hk) (by omega)
  rw [Int.natCast_zero] at f1
  rw [f1,Option.bind_some]
  have e3:=MS m2 (by rw [f2]; simp only; omega) n 0 m2 (by rw [f2]; simp only; omega) (by omega) rfl (fun k l hk=>⟨by have:=(f3 k l hk).1; omega,by rw [if_neg (by omega)]; exact hk⟩)
  rw [Int.natCast_zero] at e3
  rw [e3,Option.bind_some]
  refine⟨_,rfl,by rw [List.length_map,f2],fun s l hl=>?_⟩
  rw [List.getElem?_map] at hl
  obtain⟨l0,h0,rfl⟩:=Option.map_eq_some_iff.1 hl
  obtain⟨g1,g2⟩:=f3 s l0 h0
  have hs:s<r.legs.length+1:=by have:=(List.getElem?_eq_some_iff.1 h0).1; rw [f2] at this; exact this
  refine⟨LA (N0 l0),fun y=>?_,Nat.le_trans (KM _) (by rw [I7]; exact g1)⟩
  rw [Oq,Qw,g2,Dc V hs,List.drop_zero]
  unfold RA
  constructor
  · rintro((h | h) | ⟨h,h2⟩)
    · exact .inl h
    · exact .inr (.inl h)
    · exact .inr (.inr ⟨h,of_decide_eq_true h2⟩)
  · rintro(h | h | ⟨h,h2⟩)
    · exact .inl (.inl h)
    · exact .inl (.inr h)
    · exact .inr ⟨h,decide_eq_true h2⟩
end Go.Proofs.YtokchpjijlebiaaGreat
namespace Go.Proofs.YtokchpjijlebiaaGreat
open Go Go.RowKit
theorem PQ (l:List Int) (hb:l.length≤90) (hr:∀ x∈l,0≤x∧x≤10000):∀ (n i:Nat)(acc:Int),l.length+102<n+i→i+1≤l.length→0≤acc→Cv n l (l.drop 1) (i:Int) acc=some (max acc (Gg (l.drop i)))
  | 0,i,acc,h,hi,_=>by omega
  | n+1,i,acc,h,hi,h0=>by
    have hl1:(l.drop 1).length=l.length-1:=by simp
    rw [Cv,BG]
    by_cases hx:i<(l.drop 1).length
    · have hj:i+1<l.length:=by omega
      have hi0:i<l.length:=by omega
      have b1:=hr _ (List.getElem_mem hj)
      have b2:=hr _ (List.getElem_mem hi0)
      have e0:(l.drop 1)[i]=l[i+1]:=by rw [List.getElem_drop]; congr 1; omega
      simp only [hx,decide_true,cond_true]
      rw [AT _ _ hx,Option.bind_some,AT _ _ hi0,Option.bind_some,e0,HA (x:=l[i+1]-l[i]) (by omega) (by omega),Qv n _ (by omega) (by simp) (by simp),Option.bind_some,DQ i (by omega)]
      have em:maxL [acc,l[i+1]-l[i]]=max acc (l[i+1]-l[i]):=rfl
      rw [em,PQ l hb hr n (i+1) _ (by omega) (by omega) (by omega),AV hi0,AV hj]
      show some (max (max acc (l[i+1]-l[i])) (Gg (l[i+1]::l.drop (i+1+1))))=some (max acc (max (l[i+1]-l[i]) (Gg (l[i+1]::l.drop (i+1+1)))))
      congr 1
      omega
    · simp only [hx,decide_false,cond_false,Option.some.injEq]
      have hi':i+1=l.length:=by omega
      have:Gg (l.drop i)=0:=by
        rw [AV (show i<l.length by omega),List.drop_eq_nil_of_le (by omega)]; rfl
      rw [this]; omega
theorem Sp (n:Nat) (l:List Int) (hn:200≤n) (h1:1≤l.length) (hb:l.length≤90) (hr:∀ x∈l,0≤x∧x≤10000):Fy n l=some (Gg l):=by
  unfold Fy
  have es:sub l 1=some (l.drop 1):=by unfold sub; rw [if_pos (by omega)]; rfl
  have e:=PQ l hb hr n 0 0 (by omega) (by omega) (Int.le_refl _)
  rw [Int.natCast_zero,List.drop_zero] at e
  rw [es,Option.bind_some,e,Option.bind_some]
  have:=HG l
  congr 1; omega
theorem Ot (ml:List (List Int)) (e:Int) (hb:ml.length≤50) (hm:∀ l∈ml,1≤l.length∧l.length≤90∧∀ x∈l,0≤x∧x≤10000):∀ (n i:Nat)(acc:List Int),ml.length+210<n+i→i≤ml.length→acc.length≤i→Cl n (ml,e) acc (i:Int)=some (acc++(ml.drop i).map Gg)
  | 0,i,acc,h,hi,_=>by omega
  | n+1,i,acc,h,hi,ha=>by
    rw [Cl]
    simp only []
    rw [BG]
    by_cases hx:i<ml.length
    · obtain⟨h1,h2,h3⟩:=hm _ (List.getElem_mem hx)
      simp only [hx,decide_true,cond_true]
      rw [AT _ _ hx,Option.bind_some,Sp n _ (by omega) h1 h2 h3,Option.bind_some,DB _ _ (by simp; omega),Option.bind_some,DQ i (by omega),Ot ml e hb hm n (i+1) _ (by omega) (by omega) (by simp; omega),AV hx,List.map_cons]
      simp only [List.append_assoc,List.singleton_append]
    · have:i=ml.length:=by omega
      simp [this]
def Ou (r:Af) (t:Aw) (i:Nat):Bool:=decide ((r.buses[i]!).tm.lo≤t.tm[i]!∧t.tm[i]!≤(r.buses[i]!).tm.hi) && decide (r.turn.lo≤t.turns[i]!∧t.turns[i]!≤r.turn.hi)
def Ov (r:Af) (x:List Int):Bool:=decide (x.length=r.legs.length) && (List.range r.legs.length).all fun k=>decide ((r.legs[k]!).lo≤x[k]!∧x[k]!≤(r.legs[k]!).hi)
def KA (r:Af) (t:Aw):Bool:=decide (t.tm.length=r.buses.length∧t.turns.length=r.buses.length∧t.legs.length=r.buses.length+r.spares.length) && ((List.range r.buses.length).all (Ou r t) && t.legs.all (Ov r))
theorem QL (n:Nat) (x:Rg) (y:Int):BM n x y=some (decide (x.lo≤y∧y≤x.hi)):=by
  unfold BM
  rw [FN]; rfl
theorem MT (r:Af) (t:Aw) (hb:r.buses.length≤20) (h1:t.tm.length=r.buses.length) (h2:t.turns.length=r.buses.length):∀ (n i:Nat),r.buses.length<n+i→i≤r.buses.length→Bi n r t (i:Int)=some (if ((List.range r.buses.length).drop i).all (Ou r t) then Ex.go () else Ex.ret false)
  | 0,i,h,hi=>by omega
  | n+1,i,h,hi=>by
    rw [Bi,BG]
    by_cases hx:i<r.buses.length
    · have q1:i<t.tm.length:=by omega
      have q2:i<t.turns.length:=by omega
      have q6:i<(List.range r.buses.length).length:=by simpa using hx
      simp only [hx,decide_true,cond_true,AT _ _ hx,AT _ _ q1,AT _ _ q2,Option.bind_some,QL]
      rw [AV q6,List.all_cons,List.getElem_range,DQ i (by omega),MT r t hb h1 h2 n (i+1) (by omega) (by omega)]
      unfold Ou
      rw [Cc _ _ hx,Cc _ _ q1,Cc _ _ q2]
      cases decide ((r.buses[i]).tm.lo≤t.tm[i]∧t.tm[i]≤(r.buses[i]).tm.hi) with
      | false=>rfl
      | true =>
        simp only [Bool.not_true,cond_false,Bool.true_and]
        cases decide (r.turn.lo≤t.turns[i]∧t.turns[i]≤r.turn.hi) with
        | false=>rfl
        | true=>rfl
    · have:i=r.buses.length:=by omega
      have hd:(List.range r.buses.length).drop r.buses.length=[]:=List.drop_eq_nil_of_le (by simp)
      simp [this,hd]
theorem MU (r:Af) (x:List Int) (hl:r.legs.length≤20) (hx0:x.length=r.legs.length):∀ (n i:Nat),r.legs.length<n+i→i≤r.legs.length→Bj n r x (i:Int)=some (if ((List.range r.legs.length).drop i).all (fun k=>decide ((r.legs[k]!).lo≤x[k]!∧x[k]!≤(r.legs[k]!).hi)) then Ex.go () else Ex.ret false)
  | 0,i,h,hi=>by omega
  | n+1,i,h,hi=>by
    rw [Bj,BG]
    by_cases hx:i<x.length
    · have q1:i<r.legs.length:=by omega
      have q6:i<(List.range r.legs.length).length:=by simpa using q1
      simp only [hx,decide_true,cond_true,AT _ _ hx,AT _ _ q1,Option.bind_some,QL]
      rw [AV q6,List.all_cons,List.getElem_range,DQ i (by omega),MU r x hl hx0 n (i+1) (by omega) (by omega),Cc _ _ hx,Cc _ _ q1]
      cases decide ((r.legs[i]).lo≤x[i]∧x[i]≤(r.legs[i]).hi) <;> rfl
    · have:i=r.legs.length:=by omega
      have hd:(List.range r.legs.length).drop r.legs.length=[]:=List.drop_eq_nil_of_le (by simp)
      have hx' : ¬ r.legs.length<x.length:=by omega
      simp [this,hd,hx']
theorem MV (r:Af) (t:Aw) (hl:r.legs.length≤20) (hb:t.legs.length≤20):∀ (n i:Nat),t.legs.length+30<n+i→i≤t.legs.length→Bk n r t (i:Int)=some (if (t.legs.drop i).all (Ov r) then Ex.go () else Ex.ret false)
  | 0,i,h,hi=>by omega
  | n+1,i,h,hi=>by
    rw [Bk,BG]
    by_cases hx:i<t.legs.length
    · simp only [hx,decide_true,cond_true,AT _ _ hx,Option.bind_some]
      rw [AV hx,List.all_cons,DQ i (by omega),MV r t hl hb n (i+1) (by omega) (by omega)]
      unfold Ov
      by_cases hq:(t.legs[i]).length=r.legs.length
      · have e:=MU r (t.legs[i]) hl hq n 0 (by omega) (by omega)
        rw [Int.natCast_zero,List.drop_zero] at e
        have hne:(((t.legs[i]).length:Int) != (r.legs.length:Int))=false:=by simp [hq]
        rw [hne,cond_false,e,decide_eq_true hq,Bool.true_and]
        cases (List.range r.legs.length).all (fun k=>decide ((r.legs[k]!).lo≤(t.legs[i])[k]!∧(t.legs[i])[k]!≤(r.legs[k]!).hi)) <;> rfl
      · have hne:(((t.legs[i]).length:Int) != (r.legs.length:Int))=true:=by simp; omega
        rw [hne,cond_true,decide_eq_false hq,Bool.false_and,Bool.false_and]
        rfl
    · have:i=t.legs.length:=by omega
      simp [this]
theorem QM (n:Nat) (r:Af) (t:Aw) (hn:60≤n) (hl:r.legs.length≤20) (hb:r.buses.length≤20) (hs:r.spares.length≤20) (ht:t.legs.length≤20):Cn n r t=some (KA r t):=by
  unfold Cn KA
  rw [HA (x:=((r.buses.length:Nat):Int)+((r.spares.length:Nat):Int)) (by omega) (by omega)]
  by_cases h1:t.tm.length=r.buses.length
  · by_cases h2:t.turns.length=r.buses.length
    · by_cases h3:t.legs.length=r.buses.length+r.spares.length
      · have e1:=MT r t hb h1 h2 n 0 (by omega) (by omega)
        have e2:=MV r t hl ht n 0 (by omega) (by omega)
        simp only [Int.natCast_zero,List.drop_zero] at e1 e2
        have hz:(((t.legs.length:Nat):Int) != ((r.buses.length:Nat):Int)+((r.spares.length:Nat):Int))=false:=by simp; omega
        simp only [h1,h2,hz,bne_self_eq_false,cond_false,Option.bind_some,e1,e2]
        rw [decide_eq_true ⟨trivial,trivial,h3⟩,Bool.true_and]
        cases (List.range r.buses.length).all (Ou r t) with
        | false=>rfl
        | true=>cases t.legs.all (Ov r) <;> rfl
      · have:(((t.legs.length:Nat):Int) != ((r.buses.length:Nat):Int)+((r.spares.length:Nat):Int))=true:=by simp; omega
        simp only [h1,h2,h3,this,bne_self_eq_false,cond_false,cond_true,Option.bind_some,and_false,decide_false,Bool.false_and]
    · have:(((t.turns.length:Nat):Int) != ((r.buses.length:Nat):Int))=true:=by simp; omega
      simp only [h1,h2,this,bne_self_eq_false,cond_false,cond_true,Option.bind_some,false_and,and_false,decide_false,Bool.false_and]
  · have:(((t.tm.length:Nat):Int) != ((r.buses.length:Nat):Int))=true:=by simp; omega
    simp only [h1,this,cond_true,Option.bind_some,false_and,decide_false,Bool.false_and]
theorem QN {r:Af} {t:Aw} (h:KA r t=true):Ft r t:=by
  unfold KA at h
  rw [Bool.and_eq_true,Bool.and_eq_true,decide_eq_true_eq,List.all_eq_true,List.all_eq_true] at h
  obtain⟨⟨h1,h2,h3⟩,h4,h5⟩:=h
  have fb:∀ i<r.buses.length,Ou r t i=true:=fun i hi=>h4 i (List.mem_range.2 hi)
  have lb:∀ i<r.buses.length+r.spares.length,Ov r (t.legs[i]!)=true:=fun i hi=>by
    rw [Cc _ _ (by omega)]; exact h5 _ (List.getElem_mem _)
  refine⟨h1,h2,h3,fun i hi=>?_,fun i hi=>?_,fun i hi=>?_,fun i hi k x d hx hd=>?_⟩
  · have:=fb i hi
    unfold Ou at this
    rw [Bool.and_eq_true,decide_eq_true_eq] at this
    exact this.1
  · have:=fb i hi
    unfold Ou at this
    rw [Bool.and_eq_true,decide_eq_true_eq,decide_eq_true_eq] at this
    exact this.2
  · have:=lb i hi
    unfold Ov at this
    rw [Bool.and_eq_true,decide_eq_true_eq] at this
    exact this.1
  · have:=lb i hi
    unfold Ov at this
    rw [Bool.and_eq_true,decide_eq_true_eq,List.all_eq_true] at this
    have hk:=(List.getElem?_eq_some_iff.1 hx).1
    have h6:=this.2 k (List.mem_range.2 hk)
    rw [decide_eq_true_eq] at h6
    have e1:r.legs[k]! = x:=by rw [getElem!_def,hx]
    have e2:(t.legs[i]!)[k]! = d:=by rw [getElem!_def,hd]
    rwa [e1,e2] at h6
theorem QO {r:Af} {t:Aw} (T:Ft r t):KA r t=true:=by
  unfold KA
  rw [Bool.and_eq_true,Bool.and_eq_true,decide_eq_true_eq,List.all_eq_true,List.all_eq_true]
  refine⟨⟨T.tm,T.tt,T.legs⟩,fun i hi=>?_,fun x hx=>?_⟩
  · rw [List.mem_range] at hi
    unfold Ou
    rw [Bool.and_eq_true,decide_eq_true_eq,decide_eq_true_eq]
    exact⟨T.tms i hi,T.tts i hi⟩
  · obtain⟨i,hi,rfl⟩:=List.mem_iff_getElem.1 hx
    have hi2:i<r.buses.length+r.spares.length:=by rw [← T.legs]; exact hi
    have h1:=T.ll i hi2
    have h2:=T.leg i hi2
    rw [Cc _ _ hi] at h1 h2
    unfold Ov
    rw [Bool.and_eq_true,decide_eq_true_eq,List.all_eq_true]
    refine⟨h1,fun k hk=>?_⟩
    rw [List.mem_range] at hk
    rw [decide_eq_true_eq]
    have hk2:k<(t.legs[i]).length:=by omega
    rw [Cc _ _ hk,Cc _ _ hk2]
    exact h2 k _ _ (List.getElem?_eq_getElem hk) (List.getElem?_eq_getElem hk2)
theorem LC:∀ {l m:List Int},l.Pairwise (· < ·)→(∀ y∈l,y∈m)→l.length≤m.length
  | [],_,_,_=>Nat.zero_le _
  | x::l,m,h,hs=>by
    have hp:=List.pairwise_cons.1 h
    have hx:=hs x List.mem_cons_self
    have:=LC (l:=l) (m:=m.erase x) hp.2 fun y hy=>(List.mem_erase_of_ne (by have:=hp.1 y hy; omega)).2 (hs y (List.mem_cons_of_mem _ hy))
    rw [List.length_erase_of_mem hx] at this
    have:=List.length_pos_of_mem hx
    rw [List.length_cons]; omega
theorem Ow (r:Af) (a:Av) (t:Aw) (s:Nat):(Ep r a t s).length≤2+(r.buses.length+r.spares.length):=by
  unfold Ep
  have h1:(((((CF r a t).map (L9 (r.legs.length+1))).map fun p=>p[s]!).filter (RA r)).length)≤(CF r a t).length:=by
    refine Nat.le_trans (List.length_filter_le _ _) ?_
    rw [List.length_map,List.length_map]; exact Nat.le_refl _
  have h2:(CF r a t).length≤r.buses.length+r.spares.length:=by
    unfold CF
    rw [List.length_append,List.length_map,List.length_range]
    have:=List.length_filterMap_le (GU r a t) (List.range r.spares.length)
    rw [List.length_range] at this
    omega
  rw [List.length_cons,List.length_cons]; omega
theorem Ox (n:Nat) (r:Af) (a:Av) (t:Aw) (hF:C2 r=0) (hA:Gl r a=true) (hT:KA r t=true) (hn:280≤n) (hn2:n≤900) :
    ∃ ml,D1 n r a t=some (ml,0)∧DS n r a t=some (ml.map Gg,0)∧ml.length=r.legs.length+1∧∀ (s:Nat) l,ml[s]? = some l→l.Pairwise (· < ·)∧(∀ y,y∈l↔y∈Ep r a t s)∧l.length≤20:=by
  have V:=Ju hF
  have A:=MN hA
  have T:=QN hT
  have S:=T.sized V A
  have hok:=T.ok V A
  have:=V.nl
  have:=V.nb
  have:=V.ns
  have hlk:=V.looked
  obtain⟨ml,e1,e2,e3⟩:=QK n r a t V S hok (by omega) hn2
  have e4:∀ (s:Nat) l,ml[s]? = some l→l.Pairwise (· < ·)∧(∀ y,y∈l↔y∈Ep r a t s)∧l.length≤20:=fun s l hl=>by
    obtain⟨g1,g2,_⟩:=e3 s l hl
    have hs:s<r.legs.length+1:=by have:=(List.getElem?_eq_some_iff.1 hl).1; omega
    refine⟨g1,g2,?_⟩
    have h1:=LC g1 fun y hy=>(g2 y).1 hy
    have h2:=Ow r a t s
    omega
  have hM:D1 n r a t=some (ml,0):=by
    unfold D1
    rw [PK n r a (by omega) (by omega) (by omega) (by omega),hF,hA]
    simp only [ne_eq,not_true_eq_false,if_false,if_true,Option.bind_some,bne_self_eq_false,cond_false]
    rw [QM n r t (by omega) (by omega) (by omega) (by omega) (by have:=T.legs; omega),hT,Option.bind_some]
    simp only [Bool.not_true,cond_false]
    rw [e1,Option.bind_some]
  refine⟨ml,hM,?_,e2,e4⟩
  unfold DS
  rw [hM,Option.bind_some]
  simp only [bne_self_eq_false,cond_false]
  have e5:=Ot ml 0 (by omega) (fun l hl=>by
    obtain⟨s,hs,rfl⟩:=List.mem_iff_getElem.1 hl
    obtain⟨g1,g2,g3⟩:=e4 s _ (List.getElem?_eq_getElem hs)
    have hs2:s<r.legs.length+1:=by omega
    refine⟨?_,by omega,fun x hx=>?_⟩
    · have:r.fr∈ml[s]:=(g2 _).2 ((Dc V hs2).2 (.inl rfl))
      exact List.length_pos_of_mem this
    · rcases(Dc V hs2).1 ((g2 x).1 hx) with rfl | rfl | ⟨_,h⟩ <;> omega) n 0 [] (by omega) (by omega) (by simp)
  rw [Int.natCast_zero,List.drop_zero] at e5
  rw [e5,Option.bind_some]
  rfl
end Go.Proofs.YtokchpjijlebiaaGreat
namespace Go.Proofs.YtokchpjijlebiaaGreat
open Go Go.RowKit
theorem MW (t:Aw) (hb:t.legs.length≤20) (hl:∀ x∈t.legs,x.length≤20):∀ (n i:Nat)(acc:List (List Int)),t.legs.length<n+i→i≤t.legs.length→acc.length=i→Dm n t acc (i:Int)=some (acc++t.legs.drop i)
  | 0,i,acc,h,hi,_=>by omega
  | n+1,i,acc,h,hi,ha=>by
    rw [Dm,BG]
    by_cases hx:i<t.legs.length
    · have h20:=hl _ (List.getElem_mem hx)
      simp only [hx,decide_true,cond_true,AT _ _ hx,Option.bind_some,Fp n _ (show(t.legs[i]).length≤1000 by omega)]
      rw [DB _ _ (by simp; omega)]
      simp only [Option.bind_some]
      rw [DQ i (by omega),MW t hb hl n (i+1) _ (by omega) (by omega) (by simp; omega),AV hx,List.append_assoc]
      rfl
    · have:i=t.legs.length:=by omega
      simp [this]
theorem N2 (n:Nat) (t:Aw) (hn:30≤n) (h1:t.tm.length≤20) (h2:t.turns.length≤20) (hb:t.legs.length≤20) (hl:∀ x∈t.legs,x.length≤20):EZ n t=some t:=by
  unfold EZ
  have:=MW t hb hl n 0 [] (by omega) (by omega) rfl
  rw [show((0:Nat):Int)=0 from rfl] at this
  rw [Fp n _ (by omega),Fp n _ (by omega),this]; rfl
end Go.Proofs.YtokchpjijlebiaaGreat
namespace Go.Proofs.YtokchpjijlebiaaGreat
open Go Go.RowKit
def SH (words:List (IK .u16)):Prop:=∀ x∈words,0≤x.n∧x.n≤65535
theorem N3 (n:Nat) (x:Rg) (words:List (IK .u16)) (hw:SH words) (k:Nat) (h0:0≤x.lo) (h1:x.lo≤x.hi) (h2:x.hi≤10000):∃ v,FW n x words (k:Int)=some v∧x.lo≤v∧v≤x.hi:=by
  unfold FW
  by_cases hl:words.length=0
  · have:(((words.length:Nat):Int) == 0)=true:=by simp [hl]
    rw [this,cond_true]
    exact⟨_,rfl,h1,Int.le_refl _⟩
  · have:(((words.length:Nat):Int) == 0)=false:=by rw [beq_eq_false_iff_ne]; omega
    rw [this,cond_false]
    have e1:nz ((words.length:Nat):Int)=some ():=by unfold nz; rw [if_neg (by omega)]
    have e2:Int.tmod (k:Int) ((words.length:Nat):Int)=((k % words.length:Nat):Int):=rfl
    have hk:k % words.length<words.length:=Nat.mod_lt _ (by omega)
    have hr:=hw _ (List.getElem_mem hk)
    rw [e1,Option.bind_some,e2,AT _ _ hk,Option.bind_some,HA (x:=(words[k % words.length]).n) (by omega) (by omega)]
    obtain⟨m,hm⟩:∃ m:Nat,(words[k % words.length]).n=(m:Int):=⟨_,(Int.toNat_of_nonneg hr.1).symm⟩
    rw [hm,HA (x:=x.hi-x.lo) (by omega) (by omega),HA (x:=x.hi-x.lo+1) (by omega) (by omega)]
    cases (Int.tmod (m:Int) 4 == 0) with
    | true=>exact⟨_,rfl,Int.le_refl _,h1⟩
    | false =>
      rw [cond_false]
      cases (Int.tmod (m:Int) 4 == 1) with
      | true=>exact⟨_,rfl,h1,Int.le_refl _⟩
      | false =>
        have e3:nz (x.hi-x.lo+1)=some ():=by unfold nz; rw [if_neg (by omega)]
        obtain⟨d,hd⟩:∃ d:Nat,x.hi-x.lo+1=(d:Int):=⟨_,(Int.toNat_of_nonneg (by omega)).symm⟩
        rw [cond_false,e3,Option.bind_some,hd]
        have e4:Int.tmod (m:Int) (d:Int)=((m % d:Nat):Int):=rfl
        have hmd:m % d<d:=Nat.mod_lt _ (by omega)
        rw [e4,HA (by omega) (by omega)]
        exact⟨_,rfl,by omega,by omega⟩
theorem LD (r:Af) (V:Dw r) (words:List (IK .u16)) (hw:SH words) (i:Nat) (hi:i≤20):∀ (n k:Nat)(acc:List Int),r.legs.length<n+k→k≤r.legs.length→acc.length≤k→∃ L,CL n r words (i:Int) acc (k:Int)=some (acc++L)∧L.length+k=r.legs.length∧∀ (j:Nat)(x:Rg)(d:Int),r.legs[k+j]? = some x→L[j]? = some d→x.lo≤d∧d≤x.hi
  | 0,k,acc,h,hk,_=>by omega
  | n+1,k,acc,h,hk,ha=>by
    have hnl:=V.nl
    rw [CL,BG]
    by_cases hx:k<r.legs.length
    · have hv:=V.legs _ (List.getElem_mem hx)
      simp only [hx,decide_true,cond_true]
      rw [AT _ _ hx,Option.bind_some,HA (x:=9*(i:Int)) (by omega) (by omega),HA (x:=9*(i:Int)+(k:Int)) (by omega) (by omega),show 9*(i:Int)+(k:Int)=((9*i+k:Nat):Int) by omega]
      obtain⟨v,e1,e2,e3⟩:=N3 n (r.legs[k]) words hw (9*i+k) (by omega) (by omega) (by omega)
      rw [e1,Option.bind_some,DB _ _ (by simp; omega),Option.bind_some,DQ k (by omega)]
      obtain⟨L,f1,f2,f3⟩:=LD r V words hw i hi n (k+1) (acc++[v]) (by omega) (by omega) (by simp; omega)
      refine⟨v::L,by rw [f1]; simp,by simp; omega,fun j x d hj hd=>?_⟩
      cases j with
      | zero =>
        rw [Nat.add_zero,List.getElem?_eq_getElem hx] at hj
        cases hj
        simp at hd
        subst hd
        exact⟨e2,e3⟩
      | succ j=>exact f3 j x d (by rw [← hj]; congr 1; omega) (by simpa using hd)
    · have:k=r.legs.length:=by omega
      subst this
      refine⟨[],by simp,by simp,fun j x d _ hd=>by simp at hd⟩
structure SS (r:Af) (i:Nat) (A B:List Int) (C:List (List Int)):Prop where
  a:A.length+i=r.buses.length∨A.length=0∧r.buses.length≤i
  b:B.length=A.length
  c:C.length+i=r.buses.length+r.spares.length
  at_:∀ (j:Nat)(x:Cu)(d:Int),r.buses[i+j]? = some x→A[j]? = some d→x.tm.lo≤d∧d≤x.tm.hi
  bt:∀ d∈B,r.turn.lo≤d∧d≤r.turn.hi
  ct:∀ L∈C,L.length=r.legs.length∧∀ (j:Nat)(x:Rg)(d:Int),r.legs[j]? = some x→L[j]? = some d→x.lo≤d∧d≤x.hi
theorem IY (r:Af) (V:Dw r) (words:List (IK .u16)) (hw:SH words):∀ (n i:Nat)(x y:List Int)(z:List (List Int)),r.buses.length+r.spares.length+30<n+i→i≤r.buses.length+r.spares.length→x.length≤i→y.length≤i→z.length≤i →
    ∃ A B C,Ct n r words x y z (i:Int)=some (x++A,y++B,z++C)∧SS r i A B C
  | 0,i,x,y,z,h,hi,_,_,_=>by have:=V.nb; have:=V.ns; omega
  | n+1,i,x,y,z,h,hi,hx1,hy1,hz1=>by
    have hnl:=V.nl
    have hnb:=V.nb
    have hns:=V.ns
    have hT:=V.turn
    rw [Ct,HA (x:=((r.buses.length:Nat):Int)+((r.spares.length:Nat):Int)) (by omega) (by omega)]
    by_cases hx:i<r.buses.length+r.spares.length
    · rw [decide_eq_true (show(i:Int)<((r.buses.length:Nat):Int)+((r.spares.length:Nat):Int) by omega),cond_true]
      obtain⟨L,f1,f2,f3⟩:=LD r V words hw i (by omega) n 0 [] (by omega) (by omega) (by simp)
      rw [Int.natCast_zero] at f1
      rw [f1,Option.bind_some,List.nil_append,DB _ _ (by simp; omega),Option.bind_some]
      have hL:L.length=r.legs.length∧∀ (j:Nat)(x:Rg)(d:Int),r.legs[j]? = some x→L[j]? = some d→x.lo≤d∧d≤x.hi:=⟨by omega,fun j x d hj hd=>f3 j x d (by rw [Nat.zero_add]; exact hj) hd⟩
      by_cases hb:i<r.buses.length
      · have hv:=V.buses _ (List.getElem_mem hb)
        rw [decide_eq_true (show(i:Int)<((r.buses.length:Nat):Int) by omega),cond_true,AT _ _ hb,Option.bind_some,HA (x:=9*(i:Int)) (by omega) (by omega),HA (x:=9*(i:Int)+7) (by omega) (by omega),HA (x:=9*(i:Int)+8) (by omega) (by omega),
          show 9*(i:Int)+7=((9*i+7:Nat):Int) by omega,show 9*(i:Int)+8=((9*i+8:Nat):Int) by omega]
        obtain⟨v,e1,e2,e3⟩:=N3 n (r.buses[i]).tm words hw (9*i+7) (by omega) (by omega) (by omega)
        obtain⟨u,g1,g2,g3⟩:=N3 n r.turn words hw (9*i+8) (by omega) (by omega) (by omega)
        rw [e1,Option.bind_some,DB _ _ (by simp; omega),Option.bind_some,g1,Option.bind_some,DB _ _ (by simp; omega),Option.bind_some,DQ i (by omega)]
        obtain⟨A,B,C,k1,k2⟩:=IY r V words hw n (i+1) (x++[v]) (y++[u]) (z++[L]) (by omega) (by omega) (by simp; omega) (by simp; omega) (by simp; omega)
        refine⟨v::A,u::B,L::C,by rw [k1]; simp,⟨?_,by simp [k2.b],by have:=k2.c; simp; omega,fun j q d hj hd=>?_,fun d hd=>?_,fun q hq=>?_⟩⟩
        · have:=k2.a; simp; omega
        · cases j with
          | zero =>
            rw [Nat.add_zero,List.getElem?_eq_getElem hb] at hj
            cases hj
            simp at hd; subst hd
            exact⟨e2,e3⟩
          | succ j=>exact k2.at_ j q d (by rw [← hj]; congr 1; omega) (by simpa using hd)
        · rcases List.mem_cons.1 hd with rfl | hd
          · exact⟨g2,g3⟩
          · exact k2.bt d hd
        · rcases List.mem_cons.1 hq with rfl | hq
          · exact hL
          · exact k2.ct q hq
      · rw [decide_eq_false (show ¬ (i:Int)<((r.buses.length:Nat):Int) by omega),cond_false,DQ i (by omega)]
        obtain⟨A,B,C,k1,k2⟩:=IY r V words hw n (i+1) x y (z++[L]) (by omega) (by omega) (by omega) (by omega) (by simp; omega)
        have ha:=k2.a
        refine⟨A,B,L::C,by rw [k1]; simp,⟨by omega,k2.b,by have:=k2.c; simp; omega,fun j q d hj hd=>?_,k2.bt,fun q hq=>?_⟩⟩
        · have:=(List.getElem?_eq_some_iff.1 hj).1; omega
        · rcases List.mem_cons.1 hq with rfl | hq
          · exact hL
          · exact k2.ct q hq
    · rw [decide_eq_false (show ¬ (i:Int)<((r.buses.length:Nat):Int)+((r.spares.length:Nat):Int) by omega),cond_false]
      refine⟨[],[],[],by simp,⟨.inr ⟨rfl,by omega⟩,rfl,by simp; omega,fun j q d _ hd=>by simp at hd,fun d hd=>by simp at hd,fun q hq=>by simp at hq⟩⟩
theorem Qz (n:Nat) (r:Af) (V:Dw r) (words:List (IK .u16)) (hw:SH words) (hn:60≤n):∃ t,FX n r words=some t∧Ft r t:=by
  have hnb:=V.nb
  have hns:=V.ns
  obtain⟨A,B,C,k1,k2⟩:=IY r V words hw n 0 [] [] [] (by omega) (by omega) (by simp) (by simp) (by simp)
  rw [Int.natCast_zero] at k1
  unfold FX
  rw [k1,Option.bind_some]
  have ha:=k2.a
  have hA:A.length=r.buses.length:=by omega
  have hB:B.length=r.buses.length:=by rw [k2.b]; exact hA
  have hC:C.length=r.buses.length+r.spares.length:=by have:=k2.c; omega
  refine⟨_,rfl,?_⟩
  simp only [List.nil_append]
  refine⟨hA,hB,hC,fun i hi=>?_,fun i hi=>?_,fun i hi=>?_,fun i hi k x d hx hd=>?_⟩
  · rw [Cc _ _ hi,Cc _ _ (show i<A.length by omega)]
    exact k2.at_ i _ _ (by rw [Nat.zero_add]; exact List.getElem?_eq_getElem hi) (List.getElem?_eq_getElem _)
  · rw [Cc _ _ (show i<B.length by omega)]
    exact k2.bt _ (List.getElem_mem _)
  · rw [Cc _ _ (show i<C.length by omega)]
    exact(k2.ct _ (List.getElem_mem _)).1
  · rw [Cc _ _ (show i<C.length by omega)] at hd
    exact(k2.ct _ (List.getElem_mem _)).2 k x d hx hd
theorem HH {a:Int}:∀ {l:List Int},(∃ x∈l,x≤a)→∃ m∈l,m≤a∧∀ c∈l,c≤a→c≤m
  | [],h=>by obtain⟨x,hx,_⟩:=h; simp at hx
  | b::l,h=>by
    by_cases hl:∃ x∈l,x≤a
    · obtain⟨m,hm,h1,h2⟩:=HH hl
      by_cases hb:b≤a∧m<b
      · refine⟨b,by simp,hb.1,fun c hc hca=>?_⟩
        rcases List.mem_cons.1 hc with rfl | hc
        · exact Int.le_refl _
        · have:=h2 c hc hca; omega
      · refine⟨m,List.mem_cons_of_mem _ hm,h1,fun c hc hca=>?_⟩
        rcases List.mem_cons.1 hc with rfl | hc
        · omega
        · exact h2 c hc hca
    · obtain⟨x,hx,hxa⟩:=h
      rcases List.mem_cons.1 hx with rfl | hx
      · refine⟨x,by simp,hxa,fun c hc hca=>?_⟩
        rcases List.mem_cons.1 hc with rfl | hc
        · exact Int.le_refl _
        · exact absurd ⟨c,hc,hca⟩ hl
      · exact absurd ⟨x,hx,hxa⟩ hl
theorem Oy {l l':List Int} (hl:l.Pairwise (· < ·)) (hl':l'.Pairwise (· < ·)) {fr to_ fr' to':Int} (h0:fr≤fr') (h2:to'≤to_) (hfr:fr∈l) (hto:to_∈l) (hin:∀ y∈l',fr'≤y∧y≤to') (hm:∀ y∈l,fr'≤y→y≤to'→y≠fr→y≠to_→y∈l'):Gg l'≤Gg l:=by
  refine PM (HG l) hl' fun a ha b hb hab hno=>?_
  have ia:=hin a ha
  have ib:=hin b hb
  obtain⟨m,hm1,hm2,hm3⟩:=HH (a:=a) (l:=l) ⟨fr,hfr,by omega⟩
  have:=PN hl hm1 (show m<b by omega) ⟨to_,hto,by omega⟩ fun c hc hcc=>by
    by_cases hca:c≤a
    · have:=hm3 c hc hca; omega
    · exact hno c (hm c hc (by omega) (by omega) (by omega) (by omega)) (by omega)
  omega
theorem Pt {r:Af} (V:Dw r) {a:Av} {t:Aw} {s:Nat} (hs:s<r.legs.length+1) {y:Int} (h:y∈Ep r a t s):r.fr≤y∧y≤r.to_:=by
  have:=V.looked
  rcases(Dc V hs).1 h with rfl | rfl | ⟨_,h⟩
  · omega
  · omega
  · exact h
end Go.Proofs.YtokchpjijlebiaaGreat
namespace Go.Proofs.YtokchpjijlebiaaGreat
open Go Go.RowKit
theorem Pu {r:Af} (h:C2 r=0) {a b:Int} (h0:0≤a) (h1:a≤b) (h2:b≤2000):C2 ⟨r.legs,r.turn,r.buses,r.spares,r.unit,r.gap,a,b⟩=0:=by
  unfold C2 at h ⊢
  by_cases hl:r.buses.length>4∨r.spares.length>2
  · rw [if_pos hl] at h; cases h
  · rw [if_neg hl] at h
    show(if r.buses.length>4∨r.spares.length>2 then(3:Int) else if GV ⟨r.legs,r.turn,r.buses,r.spares,r.unit,r.gap,a,b⟩ then 0 else 1)=0
    rw [if_neg hl]
    have hv:GV r=true:=by
      by_cases hv:GV r=true
      · exact hv
      · rw [if_neg hv] at h; cases h
    have:GV ⟨r.legs,r.turn,r.buses,r.spares,r.unit,r.gap,a,b⟩=true:=by
      unfold GV at hv ⊢
      simp only [Bool.and_eq_true] at hv ⊢
      obtain⟨⟨⟨⟨⟨⟨⟨v1,v2⟩,v3⟩,v4⟩,v5⟩,v6⟩,v7⟩,v8⟩:=hv
      exact⟨⟨⟨⟨⟨⟨⟨v1,v2⟩,v3⟩,v4⟩,decide_eq_true ⟨h0,h1,h2⟩⟩,v6⟩,v7⟩,v8⟩
    rw [if_pos this]
theorem Jy (g h w v:List Int) (N:Nat) (l1:g.length=N) (l2:h.length=N) (l3:w.length=N) (l4:v.length=N) (hN:N≤100) (h1:∀ (i:Nat) x y,g[i]? = some x→h[i]? = some y→y≤x) (h2:∀ (i:Nat) x y,w[i]? = some x→v[i]? = some y→y≤x):∀ (n i:Nat),N<n+i→i≤N→By n (g,0) (h,0) (w,0) (v,0) (i:Int)=some (Ex.go ())
  | 0,i,q,hi=>by omega
  | n+1,i,q,hi=>by
    rw [By]
    simp only []
    rw [BG]
    by_cases hx:i<g.length
    · have x2:i<h.length:=by omega
      have x3:i<w.length:=by omega
      have x4:i<v.length:=by omega
      have e1:=h1 i _ _ (List.getElem?_eq_getElem hx) (List.getElem?_eq_getElem x2)
      have e2:=h2 i _ _ (List.getElem?_eq_getElem x3) (List.getElem?_eq_getElem x4)
      rw [decide_eq_true hx,cond_true,AT _ _ x2,Option.bind_some,AT _ _ hx,Option.bind_some,decide_eq_false (by omega),cond_false,AT _ _ x4,Option.bind_some,AT _ _ x3,Option.bind_some,decide_eq_false (by omega),cond_false,DQ i (by omega)]
      exact Jy g h w v N l1 l2 l3 l4 hN h1 h2 n (i+1) (by omega) (by omega)
    · rw [decide_eq_false hx,cond_false]
theorem Jz {r:Af} {a:Av} {i:Nat} {x:Int} (h:(DE r a)[i]? = some x):x=WR r.fr r.to_ (Dx r a i):=by
  unfold DE at h
  rw [List.getElem?_map] at h
  obtain⟨k,hk,rfl⟩:=Option.map_eq_some_iff.1 h
  obtain⟨hk1,hk2⟩:=List.getElem?_eq_some_iff.1 hk
  rw [List.getElem_range] at hk2
  subst hk2; rfl
theorem IZ (n:Nat) (hn:300≤n) (hn2:n≤900) (hw:FP n=some true) (r:Af) (a:Av) (words:List (IK .u16)) (from_ end_:IK .u8) (hwd:SH words) (f0:0≤from_.n) (f1:from_.n≤255) (g0:0≤end_.n) (g1:end_.n≤255):Dt n r a words from_ end_=some true:=by
  unfold Dt
  obtain⟨b,hb,hbb⟩:=QI n r a (by omega)
  rw [hb,Option.bind_some]
  cases b with
  | false=>simp only [Bool.not_false,cond_true,hw,Option.bind_some]
  | true =>
    obtain⟨b1,b2,b3,b4,b5,b6,hF,hA⟩:=hbb rfl
    have V:=Ju hF
    have hlk:=V.looked
    obtain⟨t,ht,T⟩:=Qz n r V words hwd (by omega)
    have t1:=T.tm
    have t2:=T.tt
    have t3:=T.legs
    have hTt:EZ n t=some t:=N2 n t (by omega) (by omega) (by omega) (by omega) fun x hx=>by
      obtain⟨i,hi,rfl⟩:=List.mem_iff_getElem.1 hx
      have:=T.ll i (by omega)
      rw [Cc _ _ hi] at this; omega
    simp only [Bool.not_true,cond_false]
    rw [HA (x:=from_.n) (by omega) (by omega),HA (x:=end_.n) (by omega) (by omega),HA (x:=r.fr+from_.n) (by omega) (by omega),HA (x:=r.to_-end_.n) (by omega) (by omega)]
    generalize hfr:(if r.fr+from_.n<r.to_ then r.fr+from_.n else r.to_)=fr'
    generalize hto:(if r.to_-end_.n>fr' then r.to_-end_.n else fr')=to'
    have c1:r.fr≤fr'∧fr'≤r.to_:=by rw [← hfr]; split <;> omega
    have c2:fr'≤to'∧to'≤r.to_:=by rw [← hto]; split <;> omega
    have hF':=Pu hF (a:=fr') (b:=to') (by omega) c2.1 (by omega)
    generalize hx:(Af.mk r.legs r.turn r.buses r.spares r.unit r.gap fr' to')=x at *
    have xl:x.legs=r.legs:=by rw [← hx]
    have xb:x.buses=r.buses:=by rw [← hx]
    have xs:x.spares=r.spares:=by rw [← hx]
    have hA':Gl x a=true:=by rw [← hx]; exact hA
    have hT:=QO T
    have hT':KA x t=true:=by rw [← hx]; exact hT
    obtain⟨ml,m1,m2,m3,m4⟩:=Ox n r a t hF hA hT (by omega) hn2
    obtain⟨ml',k1,k2,k3,k4⟩:=Ox n x a t hF' hA' hT' (by omega) hn2
    have V':=Ju hF'
    rw [ht,Option.bind_some,Jq n r (by omega) (by omega) (by omega) (by omega),Option.bind_some,Og n a (by omega) (by omega) (by omega),Option.bind_some,hTt,Option.bind_some,m2,Option.bind_some,
      Jq n x (by omega) (by rw [xl]; omega) (by rw [xb]; omega) (by rw [xs]; omega),Option.bind_some,Option.bind_some,Option.bind_some,k2,Option.bind_some,Option.bind_some,Option.bind_some,Oo n r a hF hA (by omega) hn2,Option.bind_some,Option.bind_some,Option.bind_some,Oo n x a hF' hA' (by omega) hn2,Option.bind_some]
    have n1:(ml.map Gg).length=r.legs.length+1:=by rw [List.length_map,m3]
    have n2:(ml'.map Gg).length=r.legs.length+1:=by rw [List.length_map,k3,xl]
    have n3:(DE r a).length=r.legs.length+1:=by simp [DE]
    have n4:(DE x a).length=r.legs.length+1:=by simp [DE,xl]
    have hloop:=Jy (ml.map Gg) (ml'.map Gg) (DE r a) (DE x a) (r.legs.length+1) n1 n2 n3 n4 (by omega) (fun i p q hp hq=>by
      rw [List.getElem?_map] at hp hq
      obtain⟨l,hl,rfl⟩:=Option.map_eq_some_iff.1 hp
      obtain⟨l',hl',rfl⟩:=Option.map_eq_some_iff.1 hq
      have hi:i<r.legs.length+1:=by have:=(List.getElem?_eq_some_iff.1 hl).1; omega
      have hi':i<x.legs.length+1:=by rw [xl]; exact hi
      obtain⟨p1,p2,_⟩:=m4 i l hl
      obtain⟨q1,q2,_⟩:=k4 i l' hl'
      have xf:x.fr=fr':=by rw [← hx]
      have xt:x.to_=to':=by rw [← hx]
      refine Oy p1 q1 c1.1 c2.2 ((p2 _).2 ((Dc V hi).2 (.inl rfl))) ((p2 _).2 ((Dc V hi).2 (.inr (.inl rfl)))) (fun y hy=>?_) (fun y hy h1 h2 h3 h4=>?_)
      · have:=Pt V' hi' ((q2 y).1 hy)
        rw [xf,xt] at this; exact this
      · rcases(Dc V hi).1 ((p2 y).1 hy) with h | h | ⟨h,_⟩
        · exact absurd h h3
        · exact absurd h h4
        · refine(q2 y).2 ((Dc V' hi').2 (.inr (.inr ⟨?_,by rw [xf]; exact h1,by rw [xt]; exact h2⟩)))
          rw [← hx]; exact h) (fun i p q hp hq=>by
      rw [Jz hp,Jz hq]
      have:Dx x a i=Dx r a i:=by rw [← hx]; rfl
      rw [this,show x.fr=fr' by rw [← hx],show x.to_=to' by rw [← hx]]
      exact So (SF.sub fun p hp=>hp) c1.1 c2.1 c2.2) n 0 (by omega) (by omega)
    rw [Int.natCast_zero] at hloop
    simp only [n1,n2,n3,n4,bne_self_eq_false,cond_false,Option.bind_some]
    rw [hloop,Option.bind_some]
    simp only [Ex.bind]
    rw [hw,Option.bind_some]
end Go.Proofs.YtokchpjijlebiaaGreat
