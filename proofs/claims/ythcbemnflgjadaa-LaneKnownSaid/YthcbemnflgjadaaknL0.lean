/- The plain law. -/
import Derived.Test.YthcbemnflgjadaaknP0
import Derived.KernelRfl
set_option linter.all false
namespace Go.Proofs.Ythcbemnflgjadaa
open Go Go.RowKit
theorem HI {x:Int} (h0 : -9223372036854775808≤x) (h1:x≤9223372036854775807):IntKind.i64.wrap x=x:=by
  simp [IntKind.wrap,IntKind.bits,IntKind.signed]; omega
theorem DT (i:Nat) (h:i<1000000000000):IntKind.i64.wrap ((i:Int)+1)=((i+1:Nat):Int):=by
  rw [HI (by omega) (by omega)]; omega
theorem Rv {α:Type} (xs:List α) (i:Nat):Bv xs (i:Int)=xs[i]?:=rfl
theorem DN {α:Type} (xs:List α) (i:Nat) (h:i<xs.length):Bv xs (i:Int)=some xs[i]:=by rw [Rv,List.getElem?_eq_getElem h]
theorem FH {α:Type} (xs ys:List α) (h:xs.length+ys.length≤1000000000):Mb xs ys=some (xs++ys):=by
  unfold Mb; rw [if_pos (by simpa using h)]
theorem TB {α:Type} (xs:List α) (i:Nat) (y:α) (h:i<xs.length):upd xs (i:Int) y=some (xs.set i y):=by
  show(if i<xs.length then some (xs.set i y) else none)=_
  rw [if_pos h]
theorem Uh {α:Type} (n:Nat) (x:α) (h:n≤1000000000):mk (n:Int) x=some (List.replicate n x):=by
  unfold mk; rw [if_pos (by omega)]; rfl
theorem Ca {α:Type} {xs:List α} {i:Nat} (h:i<xs.length):xs.drop i=xs[i]::xs.drop (i+1):=List.drop_eq_getElem_cons h
theorem BN {α:Type} (xs:List α) (i:Nat):decide ((i:Int)<((xs.length:Nat):Int))=decide (i<xs.length):=by
  by_cases h:i<xs.length <;> simp [h]
theorem GE {K α:Type} [DecidableEq K] (k j:K) (x:α):∀ l:List (K×α),CY (Gn l k x) j=if k=j then some x else CY l j
  | []=>by simp [Gn,CY]
  | p::r=>by
    unfold Gn
    by_cases h:p.1=k
    · rw [if_pos h]
      simp only [CY]
      by_cases hj:k=j
      · simp [hj]
      · simp [hj,h]
    · rw [if_neg h,CY,CY,GE k j x r]
      by_cases hj:p.1=j
      · have:k≠j:=fun e=>h (by rw [hj,e])
        simp [hj,this]
      · simp [hj]
theorem NB {α β:Type} {x:Option α} {v:α} {f:α→Option β} (h:x=some v):x.bind f=f v:=by rw [h]; rfl
theorem O2 (l:List Int):(EB l).Pairwise (·≤·):=by
  have:=List.pairwise_mergeSort (le:=fun x y:Int=>decide (x≤y)) (fun a b c h1 h2=>by simp at *; omega) (fun a b=>by simp; omega) l
  exact this.imp fun h=>by simpa using h
theorem RS {l l':List Int} (hp:l.Perm l') (hs:l'.Pairwise (·≤·)):EB l=l' :=
  List.Perm.eq_of_pairwise (le:=(·≤·)) (fun _ _ _ _ h1 h2=>Int.le_antisymm h1 h2) (O2 l) hs ((List.mergeSort_perm l _).trans hp)
theorem RT {l l':List Int} (hp:l.Perm l') (hs:l'.Pairwise (·≤·)) (hl:l.length≤1000000):Oc l=some l':=by
  unfold Oc
  rw [if_pos (by omega),RS hp hs]
def Qp:Ag:=⟨[2,2],[⟨100,120,40⟩,⟨110,130,20⟩,⟨125,140,30⟩,⟨150,160,10⟩],0⟩
def RU:Cj:=⟨Qp,[0,0,1,1],⟨0,1,2,3,0,0,0,0⟩,⟨false,false,false,false,false,false,false,false⟩⟩
theorem TC:Fe 700 Qp [0,0,1,1] [0,1,2,3] []=some ([0,2],0):=by
  unfold Fe
  refine(NB (v:=(RU,0)) (by kernel_rfl)).trans ?_
  show((Da 700 RU).bind fun x25=>(C9 700 x25).bind fun x26=>(Oc x26).bind fun u_80=>some (u_80,0))=_
  refine(NB (v:=[[2],[0],[],[]]) (by kernel_rfl)).trans ?_
  refine(NB (v:=[2,0]) (by kernel_rfl)).trans ?_
  exact NB (RT (by decide) (by decide) (by decide))
theorem Mr:Cf 700=some true:=by
  unfold Cf
  refine(NB (v:=Qp) rfl).trans ?_
  refine(NB TC).trans ?_
  kernel_rfl
theorem Gq (n:Nat) (l:List Int) (h:l.length≤1000):Dj n l=some l:=by
  unfold Dj
  simp [FH [] l (by simp; omega)]
theorem JK (n:Nat) (l:List Int) (h:l.length≤1000):Bw n l=some l:=by
  unfold Bw
  simp [FH [] l (by simp; omega)]
theorem HJ (y:Ag) (hb:y.buses.length≤1000):∀ (n i:Nat)(acc:List Bb),y.buses.length<n+i→i≤y.buses.length→acc.length=i→D3 n y acc (i:Int)=some (acc++y.buses.drop i)
  | 0,i,acc,h,hi,_=>by omega
  | n+1,i,acc,h,hi,ha=>by
    rw [D3,BN]
    by_cases hx:i<y.buses.length
    · simp only [hx,decide_true,cond_true,DN _ _ hx,Option.bind_some]
      rw [FH _ _ (by simp; omega)]
      simp only [Option.bind_some]
      rw [DT i (by omega),HJ y hb n (i+1) _ (by omega) (by omega) (by simp; omega),Ca hx,List.append_assoc]
      rfl
    · have:i=y.buses.length:=by omega
      simp [this]
theorem Gr (n:Nat) (y:Ag) (hr:y.room.length≤1000) (hb:y.buses.length≤1000) (hn:y.buses.length<n):Dk n y=some y:=by
  unfold Dk
  have e1:=HJ y hb n 0 [] (by omega) (by omega) rfl
  rw [show((0:Nat):Int)=0 from rfl] at e1
  rw [Gq n _ hr,Option.bind_some,e1]
  simp
def DO (x lo hi:Int):Bool:=decide (lo≤x) && decide (x≤hi)
theorem AI {x lo hi:Int}:DO x lo hi=true↔lo≤x∧x≤hi:=by simp [DO]
theorem KR (n:Nat) (x lo hi:Int):HX n x lo hi=some (DO x lo hi):=by
  unfold HX DO
  rw [show decide (x≥lo)=decide (lo≤x) from rfl]
  cases decide (lo≤x) <;> rfl
theorem ID (n:Nat) (x lo hi:Int):Cz n x lo hi=some (DO x lo hi):=by
  unfold Cz DO
  cases decide (lo≤x) <;> rfl
def CS (b:Bb):Bool:=DO b.lo 0 b.hi && (decide (b.hi≤2000) && DO b.turn 0 2000)
theorem RV (n:Nat) (b:Bb):Ck n b=some (CS b):=by
  unfold Ck CS
  simp only [ID,Option.bind_some]
  cases DO b.lo 0 b.hi <;> cases decide (b.hi≤2000) <;> rfl
theorem Lr (s:List Int) (f:Int→Option Bool) (g:Int→Bool) (hf:∀ c∈s,f c=some (g c)) (hs:s.length≤1000000):∀ (n i:Nat),s.length<n+i→i≤s.length →
    ∃ r,AO n s f (i:Int)=some r∧(if (s.drop i).any g then ∃ k:Int,0≤k∧r=Ex.ret k else r=Ex.go ())
  | 0,i,h,hi=>by omega
  | n+1,i,h,hi=>by
    rw [AO,BN]
    by_cases hx:i<s.length
    · simp only [hx,decide_true,cond_true,DN _ _ hx,Option.bind_some,hf _ (List.getElem_mem hx)]
      rw [DT i (by omega),Ca hx,List.any_cons]
      cases hv:g s[i] with
      | true=>exact⟨Ex.ret (i:Int),rfl,⟨i,by omega,rfl⟩⟩
      | false =>
        obtain⟨r,h1,h2⟩:=Lr s f g hf hs n (i+1) (by omega) (by omega)
        exact⟨r,h1,by rw [Bool.false_or]; exact h2⟩
    · have:i=s.length:=by omega
      subst this
      exact⟨Ex.go (),by simp,by simp⟩
theorem Qq (n:Nat) (l:List Int) (f:Int→Option Bool) (g:Int→Bool) (hf:∀ c∈l,f c=some (g c)) (h:l.length<n) (hs:l.length≤1000000):DE n l f=some (l.all g):=by
  unfold DE BJ Cg
  obtain⟨r,h1,h2⟩:=Lr l (fun y0=>C5 n y0 f) (fun c=>!g c) (fun c hc=>by unfold C5; rw [hf c hc]; rfl) hs n 0 (by omega) (by omega)
  rw [show((0:Nat):Int)=0 from rfl] at h1
  rw [h1]
  simp only [List.drop_zero] at h2
  have hn:l.all g=!l.any fun c=>!g c:=by
    rw [List.not_any_eq_all_not]; simp
  rw [hn]
  split at h2
  · rename_i hm
    obtain⟨k,hk,rfl⟩:=h2
    simp [Ex.bind,hm,hk]
  · rename_i hm
    subst h2
    simp [Ex.bind,hm]
theorem Ls (s:List Bb) (f:Bb→Option Bool) (g:Bb→Bool) (hf:∀ c∈s,f c=some (g c)) (hs:s.length≤1000000):∀ (n i:Nat),s.length<n+i→i≤s.length →
    ∃ r,A4 n s f (i:Int)=some r∧(if (s.drop i).any g then ∃ k:Int,0≤k∧r=Ex.ret k else r=Ex.go ())
  | 0,i,h,hi=>by omega
  | n+1,i,h,hi=>by
    rw [A4,BN]
    by_cases hx:i<s.length
    · simp only [hx,decide_true,cond_true,DN _ _ hx,Option.bind_some,hf _ (List.getElem_mem hx)]
      rw [DT i (by omega),Ca hx,List.any_cons]
      cases hv:g s[i] with
      | true=>exact⟨Ex.ret (i:Int),rfl,⟨i,by omega,rfl⟩⟩
      | false =>
        obtain⟨r,h1,h2⟩:=Ls s f g hf hs n (i+1) (by omega) (by omega)
        exact⟨r,h1,by rw [Bool.false_or]; exact h2⟩
    · have:i=s.length:=by omega
      subst this
      exact⟨Ex.go (),by simp,by simp⟩
theorem Qr (n:Nat) (l:List Bb) (f:Bb→Option Bool) (g:Bb→Bool) (hf:∀ c∈l,f c=some (g c)) (h:l.length<n) (hs:l.length≤1000000):Cq n l f=some (l.all g):=by
  unfold Cq AY Bi
  obtain⟨r,h1,h2⟩:=Ls l (fun y0=>B4 n y0 f) (fun c=>!g c) (fun c hc=>by unfold B4; rw [hf c hc]; rfl) hs n 0 (by omega) (by omega)
  rw [show((0:Nat):Int)=0 from rfl] at h1
  rw [h1]
  simp only [List.drop_zero] at h2
  have hn:l.all g=!l.any fun c=>!g c:=by
    rw [List.not_any_eq_all_not]; simp
  rw [hn]
  split at h2
  · rename_i hm
    obtain⟨k,hk,rfl⟩:=h2
    simp [Ex.bind,hm,hk]
  · rename_i hm
    subst h2
    simp [Ex.bind,hm]
def Ey:List Int→List Int→Bool
  | _,[]=>false
  | s,t::r=>s.contains t || Ey (s++[t]) r
theorem Lt (y:Ag) (hb:y.buses.length≤1000):∀ (n i:Nat)(m:List (Int×Bool))(s:List Int),y.buses.length<n+i→i≤y.buses.length→(∀ t,(DX m t false).1=s.contains t) →
    ∃ r,BA n y (i:Int) m=some r∧(if Ey s ((y.buses.drop i).map (·.turn)) then r=Ex.ret 1 else ∃ m',r=Ex.go m')
  | 0,i,m,s,h,hi,_=>by omega
  | n+1,i,m,s,h,hi,hm=>by
    rw [BA,BN]
    by_cases hx:i<y.buses.length
    · simp only [hx,decide_true,cond_true,DN _ _ hx,Option.bind_some,hm]
      rw [DT i (by omega),Ca hx,List.map_cons,Ey]
      cases hv:s.contains y.buses[i].turn with
      | true=>exact⟨_,rfl,rfl⟩
      | false =>
        simp only [cond_false,Bool.false_or]
        refine Lt y hb n (i+1) _ (s++[y.buses[i].turn]) (by omega) (by omega) fun t=>?_
        have:=hm t
        unfold DX at this ⊢
        rw [GE]
        by_cases ht:y.buses[i].turn=t
        · simp [ht]
        · rw [if_neg ht,this]
          simp [Ne.symm ht]
    · have:i=y.buses.length:=by omega
      subst this
      exact⟨Ex.go m,by simp,by simp [Ey]⟩
def AN (y:Ag):Int :=
  if 3<y.room.length∨8<y.buses.length then 3
  else if y.room.length=0∨DO y.broken 0 2=false∨(y.room.all fun r=>DO r 0 8)=false∨y.buses.all CS=false∨Ey [] (y.buses.map (·.turn))=true then 1 else 0
theorem Pb (n:Nat) (y:Ag) (hr:y.room.length≤1000) (hb:y.buses.length≤1000) (h1:y.room.length<n) (h2:y.buses.length<n):Ct n y=some (AN y):=by
  unfold Ct AN
  have e1:DE n y.room (fun y0=>BQ n y0)=some (y.room.all fun r=>DO r 0 8):=Qq n _ _ _ (fun c _=>by unfold BQ; rw [ID]; rfl) h1 (by omega)
  have e2:Cq n y.buses (fun y0=>Ck n y0)=some (y.buses.all CS):=Qr n _ _ _ (fun c _=>RV n c) h2 (by omega)
  obtain⟨r,e3,e4⟩:=Lt y hb n 0 [] [] (by omega) (by omega) (fun t=>by simp [DX,CY])
  rw [show((0:Nat):Int)=0 from rfl] at e3
  rw [List.drop_zero] at e4
  have c1:decide (((y.room.length:Nat):Int)>3)=decide (3<y.room.length):=by by_cases h:3<y.room.length <;> simp [h] <;> omega
  have c2:decide (((y.buses.length:Nat):Int)>8)=decide (8<y.buses.length):=by by_cases h:8<y.buses.length <;> simp [h] <;> omega
  have c3:(((y.room.length:Nat):Int) == 0)=decide (y.room.length=0):=by by_cases h:y.room.length=0 <;> simp [h]
  rw [c1,c2,c3]
  by_cases a1:3<y.room.length
  · simp [a1]
  by_cases a2:8<y.buses.length
  · simp [a1,a2]
  simp only [a1,a2,decide_false,cond_false,Option.bind_some,or_self,if_false]
  by_cases a3:y.room.length=0
  · simp [a3]
  simp only [a3,decide_false,cond_false,ID,Option.bind_some,false_or,e1,e2]
  cases a4:DO y.broken 0 2 with
  | false=>simp
  | true =>
  cases a5:(y.room.all fun r=>DO r 0 8) with
  | false=>simp
  | true =>
  cases a6:y.buses.all CS with
  | false=>simp
  | true =>
  simp only [Bool.not_true,cond_false,Option.bind_some,e3]
  cases a7:Ey [] (y.buses.map (·.turn)) with
  | true =>
    rw [a7] at e4
    simp only [if_true] at e4
    subst e4
    simp [Ex.bind]
  | false =>
    rw [a7] at e4
    obtain⟨m',rfl⟩:=e4
    simp [Ex.bind]
theorem Lu (y:Ag) (hb:y.room.length≤1000):∀ (n i:Nat),y.room.length<n+i→i≤y.room.length →
    Dd n y (i:Int)=some (if (y.room.drop i).all (fun r=>DO r 0 8) then Ex.go () else Ex.ret 1)
  | 0,i,h,hi=>by omega
  | n+1,i,h,hi=>by
    rw [Dd,BN]
    by_cases hx:i<y.room.length
    · simp only [hx,decide_true,cond_true,DN _ _ hx,Option.bind_some,KR]
      rw [DT i (by omega),Ca hx,List.all_cons]
      cases hv:DO y.room[i] 0 8 with
      | false=>simp
      | true=>simpa using Lu y hb n (i+1) (by omega) (by omega)
    · have:i=y.room.length:=by omega
      subst this
      simp
theorem Lv (y:Ag) (hb:y.buses.length≤1000) (k:Nat) (b:Bb) (hk:k≤y.buses.length):∀ (n i:Nat),k<n+i→i≤k →
    De n y (k:Int) b (i:Int)=some (if (((y.buses.take k).drop i).map (·.turn)).contains b.turn then Ex.ret 1 else Ex.go ())
  | 0,i,h,hi=>by omega
  | n+1,i,h,hi=>by
    rw [De]
    by_cases hx:i<k
    · have hx':i<(y.buses.take k).length:=by rw [List.length_take]; omega
      have hl:i<y.buses.length:=by omega
      simp only [show decide ((i:Int)<(k:Int))=true by simp; omega,cond_true,DN _ _ hl,Option.bind_some]
      rw [DT i (by omega),Ca hx',List.map_cons,List.contains_cons,List.getElem_take]
      cases hv:(y.buses[i].turn == b.turn) with
      | true =>
        have:(b.turn == y.buses[i].turn)=true:=by rw [beq_iff_eq] at hv ⊢; exact hv.symm
        simp [this]
      | false =>
        have:(b.turn == y.buses[i].turn)=false:=by
          cases hq:(b.turn == y.buses[i].turn) with
          | false=>rfl
          | true=>rw [beq_iff_eq] at hq; rw [hq] at hv; simp at hv
        rw [this,Bool.false_or]
        simpa using Lv y hb k b hk n (i+1) (by omega) (by omega)
    · have:i=k:=by omega
      subst this
      simp
theorem Lw (y:Ag) (hb:y.buses.length≤500):∀ (n i:Nat),2*y.buses.length<n+i→i≤y.buses.length →
    Df n y (i:Int)=some (if (y.buses.drop i).all CS=false∨Ey ((y.buses.take i).map (·.turn)) ((y.buses.drop i).map (·.turn))=true then Ex.ret 1 else Ex.go ())
  | 0,i,h,hi=>by omega
  | n+1,i,h,hi=>by
    rw [Df,BN]
    by_cases hx:i<y.buses.length
    · simp only [hx,decide_true,cond_true,DN _ _ hx,Option.bind_some,KR]
      have e1:=Lv y (by omega) i y.buses[i] (by omega) n 0 (by omega) (by omega)
      rw [show((0:Nat):Int)=0 from rfl] at e1
      have e2:=Lw y hb n (i+1) (by omega) (by omega)
      rw [DT i (by omega),e1,e2,Ca hx,List.all_cons,List.map_cons,Ey,List.drop_zero]
      have e3:(y.buses.take (i+1)).map (·.turn)=(y.buses.take i).map (·.turn)++[y.buses[i].turn]:=by
        rw [List.take_succ_eq_append_getElem hx,List.map_append]; rfl
      rw [e3]
      have e4:decide (y.buses[i].hi>2000)=!decide (y.buses[i].hi≤2000):=by
        by_cases hq:y.buses[i].hi≤2000
        · simp [hq,Int.not_lt.2 hq]
        · simp [hq]; omega
      rw [e4]
      unfold CS
      cases DO y.buses[i].lo 0 y.buses[i].hi <;> cases decide (y.buses[i].hi≤2000) <;> cases DO y.buses[i].turn 0 2000 <;> cases ((y.buses.take i).map (·.turn)).contains y.buses[i].turn <;> simp [Ex.bind,CS]
    · have:i=y.buses.length:=by omega
      subst this
      simp [Ey]
theorem Pc (n:Nat) (y:Ag) (hr:y.room.length≤100) (hb:y.buses.length≤100) (h1:y.room.length<n) (h2:2*y.buses.length<n):FF n y=some (AN y):=by
  unfold FF AN
  have e1:=Lu y (by omega) n 0 (by omega) (by omega)
  have e2:=Lw y (by omega) n 0 (by omega) (by omega)
  rw [show((0:Nat):Int)=0 from rfl] at e1 e2
  simp only [List.drop_zero,List.take_zero,List.map_nil] at e1 e2
  have c1:decide (((y.room.length:Nat):Int)>3)=decide (3<y.room.length):=by by_cases h:3<y.room.length <;> simp [h] <;> omega
  have c2:decide (((y.buses.length:Nat):Int)>8)=decide (8<y.buses.length):=by by_cases h:8<y.buses.length <;> simp [h] <;> omega
  have c3:decide (((y.room.length:Nat):Int)<1)=decide (y.room.length=0):=by by_cases h:y.room.length=0 <;> simp [h] <;> omega
  rw [c1,c2,c3,e1,e2]
  by_cases a1:3<y.room.length
  · simp [a1]
  by_cases a2:8<y.buses.length
  · simp [a1,a2]
  simp only [a1,a2,decide_false,cond_false,Option.bind_some,or_self,if_false]
  by_cases a3:y.room.length=0
  · simp [a3]
  simp only [a3,decide_false,cond_false,KR,Option.bind_some,false_or]
  cases a4:DO y.broken 0 2 <;> cases a5:(y.room.all fun r=>DO r 0 8) <;> cases a6:y.buses.all CS <;> cases a7:Ey [] (y.buses.map (·.turn)) <;> simp [Ex.bind]
theorem SU (n:Nat) (y:Ag):HW n y=some (decide (y.room.length≤6) && decide (y.buses.length≤12)):=by
  unfold HW
  by_cases h1:y.room.length≤6 <;> by_cases h2:y.buses.length≤12
  all_goals
    have e1:decide (((y.room.length:Nat):Int)≤6)=decide (y.room.length≤6):=by simp; omega
    have e2:decide (((y.buses.length:Nat):Int)≤12)=decide (y.buses.length≤12):=by simp; omega
    rw [e1,e2]
    simp [h1,h2]
end Go.Proofs.Ythcbemnflgjadaa
namespace Go.Proofs.Ythcbemnflgjadaa
open Go Go.RowKit
def An (y:Ag) (b:Int):Bb:=y.buses.getD b.toNat default
theorem EV (y:Ag) {b:Int} (h:DO b 0 ((y.buses.length:Int)-1)=true):Bv y.buses b=some (An y b):=by
  rw [AI] at h
  obtain⟨k,rfl⟩:=Int.eq_ofNat_of_zero_le h.1
  rw [DN _ _ (by omega)]
  unfold An
  simp [List.getD_eq_getElem?_getD,List.getElem?_eq_getElem (show k<y.buses.length by omega)]
theorem CE {y:Ag} (hv:y.buses.all CS=true) {b:Int} (h:DO b 0 ((y.buses.length:Int)-1)=true):0≤(An y b).lo∧(An y b).lo≤(An y b).hi∧(An y b).hi≤2000∧0≤(An y b).turn∧(An y b).turn≤2000:=by
  rw [AI] at h
  have hl:b.toNat<y.buses.length:=by omega
  have:CS (An y b)=true:=by
    unfold An
    rw [List.getD_eq_getElem?_getD,List.getElem?_eq_getElem hl]
    exact List.all_eq_true.1 hv _ (List.getElem_mem hl)
  unfold CS at this
  simp only [Bool.and_eq_true,AI,decide_eq_true_eq] at this
  omega
theorem O3 (n:Nat) (a b:Int):C0 (n+2) [a,b]=some (max a b):=by
  have e1:IntKind.i64.wrap 2=2:=by decide
  by_cases h:a<b
  · have:max a b=b:=by omega
    simp [C0,C6,Bo,Bv,e1,h,this]
  · have:max a b=a:=by omega
    simp [C0,C6,Bo,Bv,e1,h,this]
theorem Ms {b:Int} (h0:0≤b) (h8:b<8):KP 8 b=some ():=by
  unfold KP; rw [if_pos ⟨h0,h8⟩]
theorem Mt {b:Int} (h0:0≤b) (h8:b<8):b=0∨b=1∨b=2∨b=3∨b=4∨b=5∨b=6∨b=7:=by omega
def A8 (f:Int→Bool):Ar:=⟨f 0,f 1,f 2,f 3,f 4,f 5,f 6,f 7⟩
theorem JL (f:Int→Bool) {b:Int} (h0:0≤b) (h8:b<8):Bv (A8 f).toL b=some (f b):=by
  rcases Mt h0 h8 with h | h | h | h | h | h | h | h <;> subst h <;> rfl
theorem Pd (f:Int→Bool) {b:Int} (h0:0≤b) (h8:b<8) (v:Bool):Ar.setI (A8 f) b v=some (A8 fun x=>if x=b then v else f x):=by
  rcases Mt h0 h8 with h | h | h | h | h | h | h | h <;> subst h <;> rfl
theorem Hf {f g:Int→Bool} (h:∀ b,f b=g b):A8 f=A8 g:=by rw [funext h]
def AE (l:List Int) (b:Int):Bool:=l.contains b
def BW (l:List Int) (b:Int):Int:=if l.contains b then(l.idxOf b:Int) else 0
theorem NC (l:List Int) (c b:Int):AE (l++[c]) b=if b=c then true else AE l b:=by
  unfold AE
  by_cases h:b=c
  · subst h; simp
  · simp [h]
def ND (y:Ag) (l:List Int):Int:=l.foldl (fun m b=>max m (An y b).lo) 0
theorem RW (y:Ag) (x:Int) (hx:0≤x) (l:List Int):decide (x<ND y l)=l.any fun k=>decide (x<(An y k).lo):=by
  have key:∀ (l:List Int)(m:Int),decide (x<l.foldl (fun m b=>max m (An y b).lo) m)=(decide (x<m) || l.any fun k=>decide (x<(An y k).lo)):=by
    intro l
    induction l with
    | nil=>intro m; exact(Bool.or_false _).symm
    | cons a r ih =>
      intro m
      rw [List.foldl_cons,ih,List.any_cons,← Bool.or_assoc]
      congr 1
      by_cases h1:x<m <;> by_cases h2:x<(An y a).lo <;> simp [h1,h2] <;> omega
  unfold ND
  rw [key]
  simp [Int.not_lt.2 hx]
def QP (y:Ag) (pre:List Int) (b:Int):Bool:=DO b 0 ((y.buses.length:Int)-1) && !(pre.contains b || pre.any fun k=>decide ((An y b).hi<(An y k).lo))
def Lx (y:Ag):List Int→List Int→Bool
  | _,[]=>true
  | pre,b::r=>QP y pre b && Lx y (pre++[b]) r
def Fc (y:Ag) (order:List Int):Bool:=decide (order.length=y.buses.length) && Lx y [] order
theorem Tp:(Ar.mk false false false false false false false false)=A8 (AE []):=rfl
theorem NE (l:List Int) (x:Int) (hl:l.length≤1000):∀ (n i:Nat),l.length<n+i→i≤l.length→Ej n l x (i:Int)=some (if (l.drop i).contains x then Ex.ret true else Ex.go ())
  | 0,i,h,hi=>by omega
  | n+1,i,h,hi=>by
    rw [Ej,BN]
    by_cases hx:i<l.length
    · simp only [hx,decide_true,cond_true,DN _ _ hx,Option.bind_some]
      rw [DT i (by omega),Ca hx,List.contains_cons,NE l x hl n (i+1) (by omega) (by omega)]
      cases hv:(l[i] == x) with
      | true =>
        have:(x == l[i])=true:=by rw [beq_iff_eq] at hv ⊢; exact hv.symm
        simp [this]
      | false =>
        have:(x == l[i])=false:=by
          cases hq:(x == l[i]) with
          | false=>rfl
          | true=>rw [beq_iff_eq] at hq; rw [hq] at hv; simp at hv
        simp [this]
    · have:i=l.length:=by omega
      subst this
      simp
theorem TD (n:Nat) (l:List Int) (x:Int) (hl:l.length≤1000) (hn:l.length<n):Kk n l x=some (l.contains x):=by
  unfold Kk
  have e1:=NE l x hl n 0 (by omega) (by omega)
  rw [show((0:Nat):Int)=0 from rfl,List.drop_zero] at e1
  rw [e1]
  cases l.contains x <;> rfl
theorem BE {y:Ag} (h:AN y=0):y.room.length≤3∧0<y.room.length∧y.buses.length≤8∧DO y.broken 0 2=true∧(y.room.all fun r=>DO r 0 8)=true∧y.buses.all CS=true∧Ey [] (y.buses.map (·.turn))=false:=by
  unfold AN at h
  split at h
  · omega
  · split at h
    · omega
    · rename_i h1 h2
      simp only [not_or] at h2
      simp only [Bool.not_eq_false,Bool.not_eq_true] at h2
      exact⟨by omega,by omega,by omega,h2.2.1,h2.2.2.1,h2.2.2.2.1,h2.2.2.2.2⟩
end Go.Proofs.Ythcbemnflgjadaa
namespace Go.Proofs.Ythcbemnflgjadaa
open Go Go.RowKit
theorem SW {α:Type} (p:List α) (x:α) (r:List α):(p++x::r)[p.length]? = some x:=by simp
theorem SX {α:Type} (p:List α) (x z:α) (r:List α):(p++x::r).set p.length z=p++z::r:=by
  rw [List.set_append_right _ _ (Nat.le_refl _),Nat.sub_self]; rfl
theorem IE {α:Type} (p:List α) (x:α) (r:List α) {k:Nat} (hk:k=p.length):Bv (p++x::r) (k:Int)=some x:=by subst hk; rw [Rv,SW]
theorem Mi {α:Type} (p:List α) (x z:α) (r:List α) {k:Nat} (hk:k=p.length):upd (p++x::r) (k:Int) z=some (p++z::r):=by
  subst hk; rw [TB _ _ _ (by simp),SX]
def Jv (lt:Int→Int→Bool) (x:Int):List Int→List Int
  | []=>[x]
  | y::r=>if lt x y then y::Jv lt x r else x::y::r
def Pe (lt:Int→Int→Bool) (l:List Int) (x:Int):List Int:=(Jv lt x l.reverse).reverse
def EH (lt:Int→Int→Bool) (l:List Int):List Int:=l.foldl (Pe lt) []
theorem KS (lt:Int→Int→Bool) (x:Int):∀ l,(Jv lt x l).Perm (x::l)
  | []=>.refl _
  | y::r=>by
    unfold Jv
    split
    · exact((KS lt x r).cons y).trans (.swap x y r)
    · exact .refl _
theorem Rw (lt:Int→Int→Bool) (l:List Int) (x:Int):(Pe lt l x).Perm (l++[x]):=by
  unfold Pe
  refine(List.reverse_perm _).trans ((KS lt x _).trans ?_)
  refine((List.reverse_perm l).cons x).trans ?_
  exact(List.perm_append_singleton x l).symm
theorem H2 (lt:Int→Int→Bool):∀ (l acc:List Int),(l.foldl (Pe lt) acc).Perm (acc++l)
  | [],acc=>by simp
  | x::r,acc=>by
    rw [List.foldl_cons]
    refine(H2 lt r _).trans ?_
    refine((Rw lt acc x).append_right r).trans ?_
    simp
theorem En (lt:Int→Int→Bool) (l:List Int):(EH lt l).Perm l:=by simpa [EH] using H2 lt l []
theorem D0 (lt:Int→Int→Bool) (l:List Int):(EH lt l).length=l.length:=(En lt l).length_eq
theorem NF (lt:Int→Int→Bool) (l:List Int) (x:Int):EH lt (l++[x])=Pe lt (EH lt l) x:=by simp [EH,List.foldl_append]
theorem Ly {lt:Int→Int→Bool} {le:Int→Int→Prop} (h1:∀ a b,lt a b=true→le a b) (h2:∀ a b,lt a b=false→le b a) (ht:∀ a b c,le a b→le b c→le a c) (x:Int) :
    ∀ l:List Int,l.Pairwise (fun a b=>le b a)→(Jv lt x l).Pairwise (fun a b=>le b a)
  | [],_=>by simp [Jv]
  | y::r,h=>by
    rw [List.pairwise_cons] at h
    unfold Jv
    split
    · rename_i hx
      rw [List.pairwise_cons]
      refine⟨fun z hz=>?_,Ly h1 h2 ht x r h.2⟩
      rcases List.mem_cons.1 ((KS lt x r).mem_iff.1 hz) with rfl | hz
      · exact h1 _ _ hx
      · exact h.1 z hz
    · rename_i hx
      have hyx:=h2 x y (by simpa using hx)
      rw [List.pairwise_cons,List.pairwise_cons]
      refine⟨fun z hz=>?_,h⟩
      rcases List.mem_cons.1 hz with rfl | hz
      · exact hyx
      · exact ht _ _ _ (h.1 z hz) hyx
theorem Pf {lt:Int→Int→Bool} {le:Int→Int→Prop} (h1:∀ a b,lt a b=true→le a b) (h2:∀ a b,lt a b=false→le b a) (ht:∀ a b c,le a b→le b c→le a c) (l:List Int):(EH lt l).Pairwise le:=by
  have key:∀ (l acc:List Int),acc.Pairwise le→(l.foldl (Pe lt) acc).Pairwise le:=by
    intro l
    induction l with
    | nil=>intro acc h; exact h
    | cons x r ih =>
      intro acc h
      rw [List.foldl_cons]
      refine ih _ ?_
      unfold Pe
      rw [List.pairwise_reverse]
      exact Ly h1 h2 ht x _ (List.pairwise_reverse.2 h)
  exact key l [] List.Pairwise.nil
theorem Mu (cmp:Int→Int→Option Int) (lt:Int→Int→Bool) (x:Int):∀ (A B:List Int)(n:Nat),A.length<n→A.length≤1000000→(∀ y∈A,∃ d,cmp x y=some d∧decide (d<0)=lt x y) →
    A2 n 0 cmp (A.reverse++x::B) (A.length:Int)=some ((Jv lt x A).reverse++B)
  | _,_,0,h,_,_=>by omega
  | [],B,n+1,_,_,_=>by
    rw [A2]
    simp [Jv]
  | y::A,B,n+1,h,hl,hc=>by
    obtain⟨d,hd,hlt⟩:=hc y (by simp)
    have hl':A.length+1≤1000000:=by simpa using hl
    have e0:(y::A).reverse++x::B=A.reverse++y::x::B:=by simp
    have e1:(y::A).reverse++x::B=(A.reverse++[y])++x::B:=by simp
    have hk:(A.reverse++[y]).length=A.length+1:=by simp
    have i1:Bv ((y::A).reverse++x::B) ((A.length+1:Nat):Int)=some x:=by rw [e1,IE _ _ _ hk.symm]
    have i2:Bv ((y::A).reverse++x::B) (A.length:Int)=some y:=by rw [e0,IE _ _ _ (by simp)]
    have u1:upd ((y::A).reverse++x::B) ((A.length+1:Nat):Int) y=some (A.reverse++y::y::B):=by rw [e1,Mi _ _ _ _ hk.symm]; simp
    have i3:Bv (A.reverse++y::y::B) (A.length:Int)=some y:=IE _ _ _ (by simp)
    have u2:upd (A.reverse++y::y::B) (A.length:Int) x=some (A.reverse++x::y::B):=Mi _ _ _ _ (by simp)
    have w1:IntKind.i64.wrap (((A.length+1:Nat):Int)-1)=(A.length:Int):=by rw [HI (by omega) (by omega)]; omega
    have g1:decide (((A.length+1:Nat):Int)>0)=true:=decide_eq_true (by omega)
    rw [A2,List.length_cons]
    simp only [g1,cond_true,i1,i2,w1,Option.bind_some,hd,hlt]
    unfold Jv
    cases hx:lt x y with
    | false=>simp
    | true =>
      simp only [cond_true,u1,i3,u2,Option.bind_some,if_true]
      rw [Mu cmp lt x A (y::B) n (by simp at h; omega) (by omega) fun z hz=>hc z (by simp [hz])]
      simp
theorem Mv (cmp:Int→Int→Option Int) (lt:Int→Int→Bool) (l:List Int) (hl:l.length≤1000) (hc:∀ x∈l,∀ y∈l,∃ d,cmp x y=some d∧decide (d<0)=lt x y):∀ (n i:Nat),2*l.length+2≤n+i→i≤l.length →
    A3 n 0 (l.length:Int) cmp (EH lt (l.take i)++l.drop i) (i:Int)=some (EH lt l)
  | 0,i,h,hi=>by omega
  | n+1,i,h,hi=>by
    rw [A3]
    by_cases hx:i<l.length
    · have h1:=Mu cmp lt l[i] (EH lt (l.take i)).reverse (l.drop (i+1)) n (by simp [D0]; omega) (by simp [D0]; omega) (fun y hy=>hc _ (List.getElem_mem hx) y (by
        have:=(En lt (l.take i)).mem_iff.1 (List.mem_reverse.1 hy)
        exact List.mem_of_mem_take this))
      rw [List.reverse_reverse,List.length_reverse,D0,List.length_take,Nat.min_eq_left (Nat.le_of_lt hx),← Ca hx] at h1
      have e1:(Jv lt l[i] (EH lt (l.take i)).reverse).reverse=EH lt (l.take (i+1)):=by
        rw [List.take_succ_eq_append_getElem hx,NF]; rfl
      rw [show decide ((i:Int)<(l.length:Int))=true by simp; omega,cond_true,h1,Option.bind_some,DT i (by omega),e1]
      exact Mv cmp lt l hl hc n (i+1) (by omega) (by omega)
    · have:i=l.length:=by omega
      subst this
      simp
theorem O4 (n:Nat) (cmp:Int→Int→Option Int) (lt:Int→Int→Bool) (l:List Int) (hl:l.length≤1000) (hc:∀ x∈l,∀ y∈l,∃ d,cmp x y=some d∧decide (d<0)=lt x y) (hn:2*l.length+2≤n) :
    AZ n l 0 (l.length:Int) cmp=some (EH lt l):=by
  unfold AZ
  have e1:IntKind.i64.wrap (0+1)=((1:Nat):Int):=by decide
  rw [e1]
  cases l with
  | nil =>
    obtain⟨m,rfl⟩:∃ m,n=m+1:=⟨n-1,by simp at hn; omega⟩
    rw [A3]
    simp [EH]
  | cons x r =>
    have h1:=Mv cmp lt (x::r) hl hc n 1 (by omega) (by simp)
    have e2:EH lt ((x::r).take 1)++(x::r).drop 1=x::r:=by simp [EH,Pe,Jv]
    rw [e2] at h1
    rw [h1]
    rfl
theorem Lz (n:Nat) (cmp:Int→Int→Option Int) (lt:Int→Int→Bool) (l:List Int) (hl:l.length≤12) (hc:∀ x∈l,∀ y∈l,∃ d,cmp x y=some d∧decide (d<0)=lt x y) (hn:2*l.length+4≤n) :
    AU n l cmp=some (EH lt l):=by
  unfold AU EX
  have w1:IntKind.u64.wrap (l.length:Int)=(l.length:Int):=by
    simp [IntKind.wrap,IntKind.bits,IntKind.signed]; omega
  rw [w1,if_pos ⟨by simp,by simp; omega⟩]
  obtain⟨m,rfl⟩:∃ m,n=m+2:=⟨n-2,by omega⟩
  simp only [Option.bind_some]
  rw [Bh,Bl]
  have w2:IntKind.i64.wrap ((l.length:Int)-0)=(l.length:Int):=by rw [HI (by omega) (by omega)]; omega
  have c1:decide ((l.length:Int)≤12)=true:=by simp; omega
  rw [w2,c1,cond_true,O4 m cmp lt l (by omega) hc (by omega)]
  rfl
theorem Pg {key:Int→Int} {l l':List Int} (hk:∀ a∈l,∀ b∈l,key a=key b→a=b) (h1:l.Pairwise fun a b=>key a≤key b) (h2:l'.Pairwise fun a b=>key a≤key b) (hp:l.Perm l'):l=l' :=
  List.Perm.eq_of_pairwise (le:=fun a b=>key a≤key b) (fun a b ha hb hab hba=>hk a ha b (hp.mem_iff.2 hb) (Int.le_antisymm hab hba)) h1 h2 hp
def DP (key:Int→Int) (a b:Int):Bool:=decide (key a<key b)
theorem Hg (key:Int→Int) (l:List Int):(EH (DP key) l).Pairwise fun a b=>key a≤key b :=
  Pf (le:=fun a b=>key a≤key b) (fun a b h=>by simp [DP] at h; omega) (fun a b h=>by simp [DP] at h; omega) (fun a b c h1 h2=>Int.le_trans h1 h2) l
end Go.Proofs.Ythcbemnflgjadaa
namespace Go.Proofs.Ythcbemnflgjadaa
open Go Go.RowKit
def Ai (n:Nat):List Int:=(List.range n).map fun(k:Nat)=>(k:Int)
theorem Cy (n:Nat):Ai (n+1)=Ai n++[(n:Int)]:=by simp [Ai,List.range_succ]
theorem B3 (n:Nat):(Ai n).length=n:=by simp [Ai]
theorem Ap {n:Nat} {b:Int}:b∈Ai n↔0≤b∧b<n:=by
  unfold Ai
  rw [List.mem_map]
  constructor
  · rintro⟨k,hk,rfl⟩
    rw [List.mem_range] at hk
    omega
  · intro h
    exact⟨b.toNat,by rw [List.mem_range]; omega,by omega⟩
theorem Bc {y:Ag} {b:Int}:DO b 0 ((y.buses.length:Int)-1)=true↔b∈Ai y.buses.length:=by
  rw [AI,Ap]; omega
theorem DC:∀ n,(Ai n).Nodup
  | 0=>by simp [Ai]
  | n+1=>by
    rw [Cy,List.nodup_append]
    refine⟨DC n,by simp,fun a ha b hb=>?_⟩
    rw [Ap] at ha
    simp at hb
    omega
def AB (y:Ag) (b:Int):Int:=(An y b).turn
def JM (y:Ag) (f:Int→Bool):List Int:=(Ai y.buses.length).filter fun b=>!f b
def AX (y:Ag) (f:Int→Bool):List Int:=EH (DP (AB y)) (JM y f)
theorem Mw {y:Ag} {f:Int→Bool} {b:Int}:b∈JM y f↔b∈Ai y.buses.length∧f b=false:=by
  unfold JM
  rw [List.mem_filter]
  simp
theorem BO {y:Ag} {f:Int→Bool} {b:Int}:b∈AX y f↔b∈Ai y.buses.length∧f b=false:=by
  unfold AX
  rw [(En _ _).mem_iff,Mw]
theorem Ph (y:Ag) (f:Int→Bool):(JM y f).length≤y.buses.length:=by
  unfold JM
  exact Nat.le_trans (List.length_filter_le _ _) (by rw [B3]; exact Nat.le_refl _)
theorem Jw (y:Ag) (f:Int→Bool):(AX y f).length≤y.buses.length:=by
  unfold AX
  rw [D0]
  exact Ph y f
theorem F8 (y:Ag) (f:Int→Bool):(AX y f).Nodup:=by
  unfold AX
  rw [(En _ _).nodup_iff]
  unfold JM
  exact List.Pairwise.filter _ (DC _)
theorem L0 (y:Ag) (f:Int→Bool) (hb:y.buses.length≤8):∀ (n i:Nat),y.buses.length<n+i→i≤y.buses.length →
    By n y (A8 f) ((Ai i).filter fun b=>!f b) (i:Int)=some (JM y f)
  | 0,i,h,hi=>by omega
  | n+1,i,h,hi=>by
    rw [By,BN]
    by_cases hx:i<y.buses.length
    · have h0:(0:Int)≤(i:Int):=by omega
      have h8:(i:Int)<8:=by omega
      simp only [hx,decide_true,cond_true,Ms h0 h8,JL _ h0 h8,Option.bind_some]
      have ih:=L0 y f hb n (i+1) (by omega) (by omega)
      rw [Cy,List.filter_append] at ih
      rw [DT i (by omega)]
      have hlen:=List.length_filter_le (fun b=>!f b) (Ai i)
      rw [B3] at hlen
      cases hf:f (i:Int) with
      | true =>
        simp only [Bool.not_true,cond_false]
        rw [← ih]
        simp [hf]
      | false =>
        simp only [Bool.not_false,cond_true]
        rw [FH _ _ (by simp; omega),Option.bind_some,← ih]
        simp [hf]
    · have:i=y.buses.length:=by omega
      subst this
      simp [JM]
theorem Rx (n:Nat) {y:Ag} (hv:y.buses.all CS=true) {a b:Int} (ha:a∈Ai y.buses.length) (hb:b∈Ai y.buses.length) :
    ∃ d,B5 n a b y=some d∧decide (d<0)=DP (AB y) a b:=by
  rw [← Bc] at ha hb
  have h1:=CE hv ha
  have h2:=CE hv hb
  unfold B5
  rw [EV y ha,EV y hb]
  refine⟨_,rfl,?_⟩
  rw [HI (by omega) (by omega)]
  unfold DP AB
  by_cases h:(An y a).turn<(An y b).turn
  · rw [decide_eq_true h,decide_eq_true (by omega)]
  · rw [decide_eq_false h,decide_eq_false (by omega)]
theorem RX (n:Nat) (y:Ag) (f:Int→Bool) (hb:y.buses.length≤8) (hv:y.buses.all CS=true) (hn:20≤n):CD n y (A8 f)=some (AX y f):=by
  unfold CD
  have e1:=L0 y f hb n 0 (by omega) (by omega)
  rw [show((0:Nat):Int)=0 from rfl] at e1
  have hl:=Ph y f
  have e2:=Lz n (fun y0 y1=>B5 n y0 y1 y) (DP (AB y)) (JM y f) (by omega) (fun a ha b hb=>Rx n hv (Mw.1 ha).1 (Mw.1 hb).1) (by omega)
  rw [show(Ai 0).filter (fun b=>!f b)=([]:List Int) from rfl] at e1
  rw [e1,Option.bind_some,e2]
  rfl
theorem H3 (y:Ag) (hv:y.buses.length≤1000) (x:Int) (hx:x∈Ai y.buses.length):∀ (A B:List Int)(n:Nat),A.length<n→A.length≤1000000→(∀ z∈A,z∈Ai y.buses.length) →
    CI n y (A.reverse++x::B) (A.length:Int)=some ((Jv (DP (AB y)) x A).reverse++B)
  | _,_,0,h,_,_=>by omega
  | [],B,n+1,_,_,_=>by
    rw [CI]
    simp [Jv]
  | z::A,B,n+1,h,hl,hc=>by
    have hl':A.length+1≤1000000:=by simpa using hl
    have e0:(z::A).reverse++x::B=A.reverse++z::x::B:=by simp
    have e1:(z::A).reverse++x::B=(A.reverse++[z])++x::B:=by simp
    have hk:(A.reverse++[z]).length=A.length+1:=by simp
    have i1:Bv ((z::A).reverse++x::B) ((A.length+1:Nat):Int)=some x:=by rw [e1,IE _ _ _ hk.symm]
    have i2:Bv ((z::A).reverse++x::B) (A.length:Int)=some z:=by rw [e0,IE _ _ _ (by simp)]
    have u1:upd ((z::A).reverse++x::B) ((A.length+1:Nat):Int) z=some (A.reverse++z::z::B):=by rw [e1,Mi _ _ _ _ hk.symm]; simp
    have i3:Bv (A.reverse++z::z::B) (A.length:Int)=some z:=IE _ _ _ (by simp)
    have u2:upd (A.reverse++z::z::B) (A.length:Int) x=some (A.reverse++x::z::B):=Mi _ _ _ _ (by simp)
    have w1:IntKind.i64.wrap (((A.length+1:Nat):Int)-1)=(A.length:Int):=by rw [HI (by omega) (by omega)]; omega
    have g1:decide (((A.length+1:Nat):Int)>0)=true:=decide_eq_true (by omega)
    rw [CI,List.length_cons]
    simp only [g1,cond_true,i1,i2,w1,Option.bind_some,EV y (Bc.2 hx),EV y (Bc.2 (hc z (by simp)))]
    rw [show decide ((An y x).turn<(An y z).turn)=DP (AB y) x z from rfl]
    unfold Jv
    cases hq:DP (AB y) x z with
    | false=>simp
    | true =>
      simp only [cond_true,u1,i3,u2,Option.bind_some,if_true]
      rw [H3 y hv x hx A (z::B) n (by simp at h; omega) (by omega) fun q hq=>hc q (by simp [hq])]
      simp
theorem H4 (y:Ag) (broken:List Int) (hb:y.buses.length≤20) (hbr:broken.length≤20):∀ (n i:Nat),60≤n+i→i≤y.buses.length →
    CJ n y broken (EH (DP (AB y)) ((Ai i).filter fun b=>!AE broken b)) (i:Int)=some (AX y (AE broken))
  | 0,i,h,hi=>by omega
  | n+1,i,h,hi=>by
    rw [CJ,BN]
    by_cases hx:i<y.buses.length
    · simp only [hx,decide_true,cond_true,TD n broken _ (by omega) (by omega),Option.bind_some]
      have ih:=H4 y broken hb hbr n (i+1) (by omega) (by omega)
      rw [Cy,List.filter_append] at ih
      rw [DT i (by omega)]
      have hlen:=List.length_filter_le (fun b=>!AE broken b) (Ai i)
      rw [B3] at hlen
      rw [show broken.contains (i:Int)=AE broken (i:Int) from rfl]
      cases hf:AE broken (i:Int) with
      | true =>
        simp only [cond_true]
        rw [← ih]
        simp [hf]
      | false =>
        simp only [cond_false]
        have hq:(EH (DP (AB y)) ((Ai i).filter fun b=>!AE broken b)).length≤i:=by rw [D0]; exact hlen
        rw [FH _ _ (by simp; omega),Option.bind_some]
        have e1:=H3 y (by omega) (i:Int) (by rw [Ap]; omega) (EH (DP (AB y)) ((Ai i).filter fun b=>!AE broken b)).reverse [] n (by rw [List.length_reverse]; omega) (by rw [List.length_reverse]; omega) (fun z hz=>by
          have:=(En _ _).mem_iff.1 (List.mem_reverse.1 hz)
          have:=(List.mem_filter.1 this).1
          rw [Ap] at this ⊢
          omega)
        rw [List.reverse_reverse,List.length_reverse,List.append_nil] at e1
        have w1:IntKind.i64.wrap ((((EH (DP (AB y)) ((Ai i).filter fun b=>!AE broken b)++[(i:Int)]).length:Nat):Int)-1)=((EH (DP (AB y)) ((Ai i).filter fun b=>!AE broken b)).length:Int):=by
          rw [List.length_append,List.length_singleton,HI (by omega) (by omega)]; omega
        rw [w1,e1,Option.bind_some,← ih]
        simp only [hf,List.filter_cons,List.filter_nil,Bool.not_false,if_true,NF]
        rfl
    · have:i=y.buses.length:=by omega
      subst this
      simp [AX,JM]
theorem O5 (n:Nat) (y:Ag) (broken:List Int) (hb:y.buses.length≤20) (hbr:broken.length≤20) (hn:60≤n):GL n y broken=some (AX y (AE broken)):=by
  unfold GL
  have e1:=H4 y broken hb hbr n 0 (by omega) (by omega)
  rw [show((0:Nat):Int)=0 from rfl,show EH (DP (AB y)) ((Ai 0).filter fun b=>!AE broken b)=[] from rfl] at e1
  rw [e1]
  rfl
def CO (m:Nat) (g:Int→Int):List Int:=(Ai m).map g
theorem F9 (m:Nat) (g:Int→Int):(CO m g).length=m:=by simp [CO,B3]
theorem Mj {m:Nat} {g:Int→Int} {k:Nat} (h:k<m):(CO m g)[k]? = some (g (k:Int)):=by
  unfold CO Ai
  rw [List.getElem?_map,List.getElem?_map,List.getElem?_range h]
  rfl
theorem Gs {m:Nat} {g:Int→Int} {b:Int} (h:DO b 0 ((m:Int)-1)=true):Bv (CO m g) b=some (g b):=by
  rw [AI] at h
  obtain⟨k,rfl⟩:=Int.eq_ofNat_of_zero_le h.1
  rw [Rv,Mj (by omega)]
theorem O6 {m:Nat} {g:Int→Int} {l:List Int} (hl:l.length=m) (h:∀ k,k<m→l[k]? = some (g (k:Int))):l=CO m g:=by
  apply List.ext_getElem?
  intro k
  rcases Nat.lt_or_ge k m with hk | hk
  · rw [h k hk,Mj hk]
  · rw [List.getElem?_eq_none (by omega),List.getElem?_eq_none (by rw [F9]; omega)]
theorem JN {m:Nat} {g:Int→Int} {b v:Int} (h:DO b 0 ((m:Int)-1)=true):upd (CO m g) b v=some (CO m fun x=>if x=b then v else g x):=by
  rw [AI] at h
  obtain⟨k,rfl⟩:=Int.eq_ofNat_of_zero_le h.1
  rw [TB _ _ _ (by rw [F9]; omega)]
  congr 1
  refine O6 (by rw [List.length_set,F9]) fun j hj=>?_
  by_cases hjk:j=k
  · subst hjk
    rw [List.getElem?_set_self (by rw [F9]; omega)]
    simp
  · rw [List.getElem?_set_ne (Ne.symm hjk),Mj hj,if_neg (by omega)]
theorem GF (l:List Int):l=CO l.length fun k=>l.getD k.toNat 0:=O6 rfl fun k hk=>by
  rw [List.getElem?_eq_getElem hk]
  simp [List.getD_eq_getElem?_getD,List.getElem?_eq_getElem hk]
theorem RY (m:Nat):List.replicate m (0:Int)=CO m fun _=>0:=O6 (by simp) fun k hk=>by
  rw [List.getElem?_replicate,if_pos hk]
def A7 (room:List Int) (k:Int):Int:=room.getD k.toNat 0
def Cs (room:List Int):List Int→List Int→Bool
  | _,[]=>true
  | pre,n::r=>DO n 0 ((room.length:Int)-1) && (decide ((pre.count n:Int)<A7 room n) && Cs room (pre++[n]) r)
def AW (y:Ag) (l:List Int):Bool:=decide (l.length=y.buses.length) && Cs y.room [] l
theorem EI {room:List Int} (h:(room.all fun r=>DO r 0 8)=true) {k:Int} (hk:DO k 0 ((room.length:Int)-1)=true):0≤A7 room k∧A7 room k≤8:=by
  rw [AI] at hk
  have hl:k.toNat<room.length:=by omega
  unfold A7
  rw [List.getD_eq_getElem?_getD,List.getElem?_eq_getElem hl]
  exact AI.1 (List.all_eq_true.1 h _ (List.getElem_mem hl))
theorem Eg (pre:List Int) (n k:Int):((pre++[n]).count k:Int)=(pre.count k:Int)+(if k=n then 1 else 0):=by
  rw [List.count_append,List.count_singleton]
  by_cases h:k=n
  · subst h; simp
  · have:(n == k)=false:=by
      cases hq:(n == k) with
      | false=>rfl
      | true=>rw [beq_iff_eq] at hq; exact absurd hq.symm h
    simp [h,this]
theorem L3 (room:List Int) (hr:(room.all fun r=>DO r 0 8)=true) (hm:room.length≤1000) (l:List Int) (hl:l.length≤1000):∀ (n i:Nat),l.length<n+i→i≤l.length→(∀ k,DO k 0 ((room.length:Int)-1)=true→((l.take i).count k:Int)≤A7 room k) →
    ∃ r,BB n l (CO room.length fun k=>A7 room k-((l.take i).count k:Int)) (i:Int)=some r∧(if Cs room (l.take i) (l.drop i) then ∃ x,r=Ex.go x else r=Ex.ret false)
  | 0,i,h,hi,_=>by omega
  | n+1,i,h,hi,hc=>by
    rw [BB,BN]
    by_cases hx:i<l.length
    · simp only [hx,decide_true,cond_true,DN _ _ hx,Option.bind_some,ID,F9]
      rw [HI (x:=(room.length:Int)-1) (by omega) (by omega),Ca hx,Cs]
      cases h1:DO l[i] 0 ((room.length:Int)-1) with
      | false=>exact⟨_,rfl,by simp⟩
      | true =>
        have hk:=hc _ h1
        have hR:=EI hr h1
        simp only [Bool.not_true,cond_false,Gs h1,Option.bind_some]
        by_cases h2:((l.take i).count l[i]:Int)<A7 room l[i]
        · have e0:(A7 room l[i]-((l.take i).count l[i]:Int) == 0)=false:=by
            cases hq:(A7 room l[i]-((l.take i).count l[i]:Int) == 0) with
            | false=>rfl
            | true=>rw [beq_iff_eq] at hq; omega
          rw [e0]
          simp only [cond_false,JN h1,Option.bind_some]
          rw [DT i (by omega),HI (by omega) (by omega),decide_eq_true h2]
          have e1:l.take i++[l[i]]=l.take (i+1):=(List.take_succ_eq_append_getElem hx).symm
          have e2:(CO room.length fun x=>if x=l[i] then A7 room l[i]-((l.take i).count l[i]:Int)-1 else A7 room x-((l.take i).count x:Int))=CO room.length fun k=>A7 room k-((l.take (i+1)).count k:Int):=by
            congr 1
            funext x
            rw [← e1,Eg]
            by_cases hxe:x=l[i]
            · rw [if_pos hxe,if_pos hxe,hxe]; omega
            · rw [if_neg hxe,if_neg hxe]; omega
          rw [e1,e2]
          simp only [Bool.true_and]
          refine L3 room hr hm l hl n (i+1) (by omega) (by omega) fun k hkk=>?_
          rw [← e1,Eg]
          have:=hc k hkk
          split
          · rename_i hke; rw [hke]; omega
          · omega
        · have e0:(A7 room l[i]-((l.take i).count l[i]:Int) == 0)=true:=by rw [beq_iff_eq]; omega
          rw [e0,decide_eq_false h2]
          exact⟨_,rfl,by simp⟩
    · have:i=l.length:=by omega
      subst this
      exact⟨Ex.go _,by simp; rfl,by simp [Cs]⟩
theorem RZ (n:Nat) (y:Ag) (hr:(y.room.all fun r=>DO r 0 8)=true) (hm:y.room.length≤1000) (l:List Int) (hl:l.length≤1000) (hn:l.length<n):CC n y l=some (AW y l):=by
  unfold CC AW
  by_cases he:l.length=y.buses.length
  · rw [show((l.length:Int) != (y.buses.length:Int))=false by simp [he],cond_false,JK n _ hm,Option.bind_some]
    obtain⟨r,h1,h2⟩:=L3 y.room hr hm l hl n 0 (by omega) (by omega) (fun k hk=>by simp; exact(EI hr hk).1)
    have e1:(CO y.room.length fun k=>A7 y.room k-(((l.take 0).count k:Nat):Int))=y.room:=by
      refine Eq.trans ?_ (GF y.room).symm
      congr 1
      funext k
      simp [A7]
    rw [e1,show((0:Nat):Int)=0 from rfl] at h1
    rw [h1]
    simp only [List.take_zero,List.drop_zero] at h2
    split at h2
    · rename_i hq
      obtain⟨x,rfl⟩:=h2
      simp [Ex.bind,he,hq]
    · rename_i hq
      subst h2
      simp [Ex.bind,he,hq]
  · rw [show((l.length:Int) != (y.buses.length:Int))=true by simp; omega]
    simp [he]
end Go.Proofs.Ythcbemnflgjadaa
namespace Go.Proofs.Ythcbemnflgjadaa
open Go Go.RowKit
def NG (y:Ag):Int→List Int→Bool
  | _,[]=>true
  | last,b::r=>DO b 0 ((y.buses.length:Int)-1) && (decide (last<b) && NG y b r)
def Ez (y:Ag) (l:List Int):Bool:=NG y (-1) l && decide ((l.length:Int)≤y.broken)
theorem JO {σ:Type} (step:σ→Int→Option σ) (q:List Int) (hq:q.length≤1000):∀ (n i:Nat)(s:σ),q.length<n+i→i≤q.length →
    AR n (fun s x=>(step s x).bind fun s1=>some (s1,true)) q (i:Int) s=((q.drop i).foldlM step s).map Ex.go
  | 0,i,s,h,hi=>by omega
  | n+1,i,s,h,hi=>by
    rw [AR,BN]
    by_cases hx:i<q.length
    · simp only [hx,decide_true,cond_true,DN _ _ hx,Option.bind_some]
      rw [DT i (by omega),Ca hx,List.foldlM_cons]
      cases hs:step s q[i] with
      | none=>rfl
      | some s' =>
        simp only [Option.bind_some,Bool.not_true,cond_false]
        rw [JO step q hq n (i+1) s' (by omega) (by omega)]
        rfl
    · have:i=q.length:=by omega
      subst this
      simp
theorem Ry {σ:Type} (n:Nat) (step:σ→Int→Option σ) (s:σ) (q:List Int) (hq:q.length≤1000) (hn:q.length<n) :
    Bu n (fun s x=>(step s x).bind fun s1=>some (s1,true)) s q=q.foldlM step s:=by
  unfold Bu
  have e1:=JO step q hq n 0 s (by omega) (by omega)
  rw [show((0:Nat):Int)=0 from rfl,List.drop_zero] at e1
  rw [e1]
  cases q.foldlM step s <;> rfl
def AA (lanes:List Int) (b:Int):Int:=lanes.getD b.toNat 0
theorem JP (lanes:List Int) {b:Int} (h0:0≤b) (h:b<lanes.length):Bv lanes b=some (AA lanes b):=by
  obtain⟨k,rfl⟩:=Int.eq_ofNat_of_zero_le h0
  rw [DN _ _ (by omega)]
  unfold AA
  simp [List.getD_eq_getElem?_getD,List.getElem?_eq_getElem (show k<lanes.length by omega)]
def QQ (lanes order:List Int) (c b:Int):Bool:=AA lanes c == AA lanes b && decide (BW order c<BW order b)
theorem EJ (l:List Int) (b:Int):0≤BW l b∧BW l b≤l.length:=by
  unfold BW
  split
  · have:=List.idxOf_le_length (a:=b) (l:=l)
    omega
  · omega
def Sa (y:Ag) (lanes order:List Int) (g:Int→Bool) (b:Int) (k:Nat):List Int:=(Ai k).filter fun c=>!g c && QQ lanes order c b
def KU (y:Ag) (lanes order:List Int) (g:Int→Bool) (b:Int):List Int:=EH (DP (BW order)) (Sa y lanes order g b y.buses.length)
def Tq (y:Ag) (lanes order:List Int) (g:Int→Bool) (b:Int):Int→Bool:=fun x=>if x=b then true else(g x || AE (KU y lanes order g b) x)
def FI (y:Ag) (lanes order:List Int):(Int→Bool)→List Int→List (List Int)
  | _,[]=>[]
  | g,b::r=>KU y lanes order g b::FI y lanes order (Tq y lanes order g b) r
theorem Rz {y:Ag} {lanes order:List Int} {g:Int→Bool} {b:Int} {k:Nat} {c:Int}:c∈Sa y lanes order g b k↔c∈Ai k∧g c=false∧QQ lanes order c b=true:=by
  unfold Sa
  rw [List.mem_filter]
  simp
theorem Mx {y:Ag} {lanes order:List Int} {g:Int→Bool} {b:Int} {c:Int}:c∈KU y lanes order g b↔c∈Ai y.buses.length∧g c=false∧QQ lanes order c b=true:=by
  unfold KU
  rw [(En _ _).mem_iff,Rz]
end Go.Proofs.Ythcbemnflgjadaa
namespace Go.Proofs.Ythcbemnflgjadaa
open Go Go.RowKit
theorem My (y:Ag):∀ (l pre:List Int),pre.Nodup→Lx y pre l=true→(pre++l).Nodup∧∀ b∈l,b∈Ai y.buses.length
  | [],pre,hp,_=>by simpa using hp
  | b::r,pre,hp,h=>by
    unfold Lx QP at h
    simp only [Bool.and_eq_true,Bool.not_eq_true',Bool.or_eq_false_iff] at h
    obtain⟨⟨h1,h2,_⟩,h4⟩:=h
    have hb:b ∉ pre:=by simpa using h2
    have hp':(pre++[b]).Nodup:=by
      rw [List.nodup_append]
      refine⟨hp,by simp,fun a ha c hc=>?_⟩
      simp at hc
      rintro rfl
      exact hb (hc▸ha)
    obtain⟨q1,q2⟩:=My y r (pre++[b]) hp' h4
    refine⟨by simpa using q1,fun c hc=>?_⟩
    rcases List.mem_cons.1 hc with rfl | hc
    · exact Bc.1 h1
    · exact q2 c hc
theorem Sb:∀ (l m:List Int),l.Nodup→(∀ x∈l,x∈m)→m.length≤l.length→∀ x∈m,x∈l
  | [],m,_,_,hl,x,hx=>by
    have:m=[]:=List.eq_nil_of_length_eq_zero (by simpa using hl)
    rw [this] at hx
    simp at hx
  | a::l,m,hn,hs,hl,x,hx=>by
    rw [List.nodup_cons] at hn
    by_cases hxa:x=a
    · simp [hxa]
    · have ha:a∈m:=hs a (by simp)
      refine List.mem_cons_of_mem _ (Sb l (m.erase a) hn.2 (fun z hz=>?_) ?_ x ((List.mem_erase_of_ne hxa).2 hx))
      · have hza:z≠a:=fun h=>hn.1 (h▸hz)
        exact(List.mem_erase_of_ne hza).2 (hs z (by simp [hz]))
      · rw [List.length_erase_of_mem ha]
        simp at hl
        omega
structure Mk (y:Ag) (order:List Int):Prop where
  nd:order.Nodup
  len:order.length=y.buses.length
  mem:∀ b,b∈order↔b∈Ai y.buses.length
theorem Jx {y:Ag} {order:List Int} (h:Fc y order=true):Mk y order:=by
  unfold Fc at h
  simp only [Bool.and_eq_true,decide_eq_true_eq] at h
  obtain⟨h1,h2⟩:=My y order [] List.nodup_nil h.2
  rw [List.nil_append] at h1
  exact⟨h1,h.1,fun b=>⟨h2 b,Sb order (Ai y.buses.length) h1 h2 (by rw [B3,h.1]; exact Nat.le_refl _) b⟩⟩
theorem JQ {l:List Int} {a b:Int} (ha:a∈l) (hb:b∈l) (h:BW l a=BW l b):a=b:=by
  unfold BW at h
  simp only [List.contains_iff_mem,ha,hb,if_true] at h
  have h':l.idxOf a=l.idxOf b:=by omega
  have q1:=List.idxOf_lt_length_iff.2 ha
  have q2:=List.idxOf_lt_length_iff.2 hb
  have e1:=List.getElem_idxOf q1
  have e2:=List.getElem_idxOf q2
  rw [← e1,← e2]
  congr 1
end Go.Proofs.Ythcbemnflgjadaa
namespace Go.Proofs.Ythcbemnflgjadaa
open Go Go.RowKit
theorem JR (a:List Int) (ha:a.length≤1000):∀ (n i:Nat),a.length<n+i→i≤a.length→D2 n a a (i:Int)=some (Ex.go ())
  | 0,i,h,hi=>by omega
  | n+1,i,h,hi=>by
    rw [D2,BN]
    by_cases hx:i<a.length
    · simp only [hx,decide_true,cond_true,DN _ _ hx,Option.bind_some,bne_self_eq_false,cond_false]
      rw [DT i (by omega)]
      exact JR a ha n (i+1) (by omega) (by omega)
    · have:i=a.length:=by omega
      subst this
      simp
theorem R0 (n:Nat) (a:List Int) (ha:a.length≤1000) (hn:a.length<n):FU n a a=some true:=by
  unfold FU
  have e1:=JR a ha n 0 (by omega) (by omega)
  rw [show((0:Nat):Int)=0 from rfl] at e1
  rw [bne_self_eq_false,cond_false,e1]
  rfl
def Eo (y:Ag) (lanes order broken:List Int):List (List Int):=FI y lanes order (fun _=>false) (AX y (AE broken))
def Ci (y:Ag) (lanes order broken:List Int):List Int:=(Ai y.buses.length).filter (AE (Eo y lanes order broken).flatten)
end Go.Proofs.Ythcbemnflgjadaa
namespace Go.Proofs.Ythcbemnflgjadaa
open Go Go.RowKit
def TR (words:List (IK .u16)):Prop:=∀ x∈words,0≤x.n∧x.n≤65535
def wd (words:List (IK .u16)) (k:Int):Int:=if words.length=0 then 0 else(words.getD (Int.tmod k (words.length:Int)).toNat ⟨0⟩).n
theorem Eh {k m:Int} (hk:0≤k) (hm:0<m):0≤Int.tmod k m∧Int.tmod k m<m:=by
  rw [Int.tmod_eq_emod_of_nonneg hk]
  exact⟨Int.emod_nonneg _ (by omega),Int.emod_lt_of_pos _ hm⟩
theorem Pi {b:Int} (h:b≠0):nz b=some ():=by unfold nz; rw [if_neg h]
theorem SY (n:Nat) (words:List (IK .u16)) (hw:TR words) (k:Int) (hk:0≤k):HY n words k=some (wd words k):=by
  unfold HY wd
  by_cases h:words.length=0
  · simp [h]
  · have hm:(0:Int)<(words.length:Int):=by omega
    obtain⟨h1,h2⟩:=Eh hk hm
    have e0:((words.length:Int) == 0)=false:=by
      cases hq:((words.length:Int) == 0) with
      | false=>rfl
      | true=>rw [beq_iff_eq] at hq; omega
    rw [e0,cond_false,Pi (by omega),Option.bind_some,if_neg h]
    obtain⟨j,hj⟩:=Int.eq_ofNat_of_zero_le h1
    rw [hj,DN _ _ (by omega),Option.bind_some]
    have hjl:j<words.length:=by omega
    have:=hw _ (List.getElem_mem hjl)
    rw [HI (by omega) (by omega)]
    simp [List.getD_eq_getElem?_getD,List.getElem?_eq_getElem hjl]
theorem Sc {words:List (IK .u16)} (hw:TR words) (k:Int):0≤wd words k∧wd words k≤65535:=by
  unfold wd
  split
  · omega
  · rw [List.getD_eq_getElem?_getD]
    cases hq:words[(Int.tmod k (words.length:Int)).toNat]? with
    | none=>simp
    | some x=>exact hw x (List.mem_of_getElem? hq)
def TW (y:Ag) (words:List (IK .u16)) (b:Int):Int :=
  if Int.tmod (wd words b) 3=0 then(An y b).lo else if Int.tmod (wd words b) 3=1 then(An y b).hi
  else(An y b).lo+Int.tmod (Int.tdiv (wd words b) 3) ((An y b).hi-(An y b).lo+1)
def keyOf (y:Ag) (words:List (IK .u16)) (b:Int):Int:=2*TW y words b+Int.tmod (wd words (2*b+1)) 2
theorem Pj (y:Ag):∀ (l pre:List Int),(pre++l).Nodup→(∀ b∈l,b∈Ai y.buses.length)→(pre++l).Pairwise (fun a b=>(An y a).lo≤(An y b).hi)→Lx y pre l=true
  | [],pre,_,_,_=>rfl
  | b::r,pre,hn,hm,hp=>by
    unfold Lx QP
    have h1:DO b 0 ((y.buses.length:Int)-1)=true:=Bc.2 (hm b (by simp))
    have hn2:=hn
    rw [List.nodup_append] at hn2
    have h2:pre.contains b=false:=by
      have:b ∉ pre:=fun h=>hn2.2.2 b h b (by simp) rfl
      simpa using this
    have hp2:=hp
    rw [List.pairwise_append] at hp2
    have h3:(pre.any fun k=>decide ((An y b).hi<(An y k).lo))=false:=by
      rw [List.any_eq_false]
      intro k hk
      have:=hp2.2.2 k hk b (by simp)
      simp
      omega
    rw [h1,h2,h3]
    simp only [Bool.or_self,Bool.not_false,Bool.and_self,Bool.true_and]
    exact Pj y r (pre++[b]) (by simpa using hn) (fun c hc=>hm c (by simp [hc])) (by simpa using hp)
theorem Pk (y:Ag):∀ (l:List Int)(last:Int),(last::l).Pairwise (· < ·)→(∀ b∈l,b∈Ai y.buses.length)→NG y last l=true
  | [],_,_,_=>rfl
  | b::r,last,hp,hm=>by
    unfold NG
    rw [List.pairwise_cons] at hp
    rw [Bc.2 (hm b (by simp)),decide_eq_true (hp.1 b (by simp)),Bool.true_and,Bool.true_and]
    exact Pk y r b hp.2 fun c hc=>hm c (by simp [hc])
theorem HK (room:List Int):∀ (l pre:List Int)(x:Int),Cs room pre (l++[x])=(Cs room pre l && (DO x 0 ((room.length:Int)-1) && decide (((pre++l).count x:Int)<A7 room x)))
  | [],pre,x=>by simp [Cs]
  | b::r,pre,x=>by
    rw [List.cons_append,Cs,Cs,HK room r (pre++[b]) x]
    simp [Bool.and_assoc]
theorem Pm (n:Nat) (y:Ag) (hn:100≤n):FG n y=some (decide (y.room.length≤6) && decide (y.buses.length≤12) && decide (AN y=0)):=by
  unfold FG
  rw [SU,Option.bind_some]
  by_cases h1:y.room.length≤6
  · by_cases h2:y.buses.length≤12
    · rw [Pc n y (by omega) (by omega) (by omega) (by omega)]
      by_cases hf:AN y=0
      · simp [h1,h2,hf]
      · have:(AN y == 0)=false:=by simp [hf]
        simp [h1,h2,hf,this]
    · simp [h1,h2]
  · simp [h1]
end Go.Proofs.Ythcbemnflgjadaa
namespace Go.Proofs.Ythcbemnflgjadaa
open Go Go.RowKit
def Jy (lanes order:List Int) (c:Int):List Int→Bool
  | []=>false
  | b::r=>QQ lanes order c b || (c != b && Jy lanes order c r)
theorem JS (y:Ag) (lanes order:List Int) (c:Int):∀ (ts:List Int)(g:Int→Bool),c∈(FI y lanes order g ts).flatten↔c∈Ai y.buses.length∧g c=false∧Jy lanes order c ts=true
  | [],g=>by simp [FI,Jy]
  | b::r,g=>by
    rw [FI,List.flatten_cons,List.mem_append,Mx,JS y lanes order c r,Jy]
    unfold Tq
    simp only [Bool.or_eq_true,Bool.and_eq_true,bne_iff_ne]
    constructor
    · rintro(⟨h1,h2,h3⟩ | ⟨h1,h2,h3⟩)
      · exact⟨h1,h2,.inl h3⟩
      · split at h2
        · cases h2
        · rename_i hne
          simp only [Bool.or_eq_false_iff] at h2
          exact⟨h1,h2.1,.inr ⟨hne,h3⟩⟩
    · rintro⟨h1,h2,h3 | ⟨h3,h4⟩⟩
      · exact .inl ⟨h1,h2,h3⟩
      · cases hq:QQ lanes order c b with
        | true=>exact .inl ⟨h1,h2,rfl⟩
        | false =>
          refine .inr ⟨h1,?_,h4⟩
          rw [if_neg h3,h2,Bool.false_or]
          cases hs:AE (KU y lanes order g b) c with
          | false=>rfl
          | true =>
            have:c∈KU y lanes order g b:=by simpa [AE] using hs
            rw [(Mx.1 this).2.2] at hq
            cases hq
theorem Qs (lanes order:List Int) (c:Int):QQ lanes order c c=false:=by simp [QQ]
theorem Mz (key:Int→Int) (lanes order:List Int) (c:Int):∀ ts:List Int,ts.Pairwise (fun a b=>key a<key b)→(Jy lanes order c ts=true↔∃ b∈ts,QQ lanes order c b=true∧(c∈ts→key b<key c))
  | [],_=>by simp [Jy]
  | b::r,hp=>by
    rw [List.pairwise_cons] at hp
    have ih:=Mz key lanes order c r hp.2
    rw [Jy]
    simp only [Bool.or_eq_true,Bool.and_eq_true,bne_iff_ne,ih]
    constructor
    · rintro(h | ⟨hne,d,hd,h1,h2⟩)
      · refine⟨b,by simp,h,fun hc=>?_⟩
        rcases List.mem_cons.1 hc with rfl | hc
        · rw [Qs] at h; cases h
        · exact hp.1 c hc
      · refine⟨d,by simp [hd],h1,fun hc=>?_⟩
        rcases List.mem_cons.1 hc with rfl | hc
        · exact absurd rfl hne
        · exact h2 hc
    · rintro⟨d,hd,h1,h2⟩
      rcases List.mem_cons.1 hd with rfl | hd
      · exact .inl h1
      · by_cases hcb:c=b
        · exfalso
          have h3:=h2 (by simp [hcb])
          have h4:=hp.1 d hd
          rw [hcb] at h3
          omega
        · exact .inr ⟨hcb,d,hd,h1,fun hc=>h2 (by simp [hc])⟩
theorem NH:∀ (l s:List Int),Ey s l=false→(∀ t∈l,t ∉ s)∧l.Nodup
  | [],s,_=>by simp
  | t::r,s,h=>by
    unfold Ey at h
    simp only [Bool.or_eq_false_iff] at h
    obtain⟨h1,h2⟩:=h
    obtain⟨q1,q2⟩:=NH r (s++[t]) h2
    have h1':t ∉ s:=by simpa using h1
    refine⟨fun u hu=>?_,?_⟩
    · rcases List.mem_cons.1 hu with rfl | hu
      · exact h1'
      · exact fun hs=>q1 u hu (by simp [hs])
    · rw [List.nodup_cons]
      exact⟨fun hm=>q1 t hm (by simp),q2⟩
theorem M0 {y:Ag} (hd:Ey [] (y.buses.map (·.turn))=false) {a b:Int} (ha:a∈Ai y.buses.length) (hb:b∈Ai y.buses.length) (h:AB y a=AB y b):a=b:=by
  have hn:=(NH _ _ hd).2
  rw [Ap] at ha hb
  have hal:a.toNat<(y.buses.map (·.turn)).length:=by rw [List.length_map]; omega
  have hbl:b.toNat<(y.buses.map (·.turn)).length:=by rw [List.length_map]; omega
  have h1:(y.buses.map (·.turn))[a.toNat]=(y.buses.map (·.turn))[b.toNat]:=by
    rw [List.getElem_map,List.getElem_map]
    unfold AB An at h
    rw [List.length_map] at hal hbl
    simpa [List.getD_eq_getElem?_getD,List.getElem?_eq_getElem hal,List.getElem?_eq_getElem hbl] using h
  have:=(List.getElem_inj hn).1 h1
  omega
theorem DU {y:Ag} (hd:Ey [] (y.buses.map (·.turn))=false) (f:Int→Bool):(AX y f).Pairwise fun a b=>AB y a<AB y b:=by
  have h1:=Hg (AB y) (JM y f)
  have h2:=F8 y f
  have h3:(AX y f).Pairwise fun a b=>AB y a≤AB y b∧a≠b:=h1.and h2
  refine List.Pairwise.imp_of_mem (fun {a b} ha hb h=>?_) h3
  rcases Int.lt_or_eq_of_le h.1 with h4 | h4
  · exact h4
  · exact absurd (M0 hd (BO.1 ha).1 (BO.1 hb).1 h4) h.2
def Qt (y:Ag) (lanes order broken:List Int) (c b:Int):Prop:=b∈Ai y.buses.length∧AE broken b=false∧QQ lanes order c b=true∧(AE broken c=false→AB y b<AB y c)
theorem FJ {y:Ag} (hd:Ey [] (y.buses.map (·.turn))=false) (lanes order broken:List Int) (c:Int):c∈Ci y lanes order broken↔c∈Ai y.buses.length∧∃ b,Qt y lanes order broken c b:=by
  unfold Ci Eo
  rw [List.mem_filter]
  have h1:AE (FI y lanes order (fun _=>false) (AX y (AE broken))).flatten c=true↔c∈(FI y lanes order (fun _=>false) (AX y (AE broken))).flatten:=by simp [AE]
  rw [h1,JS,Mz (AB y) lanes order c _ (DU hd _)]
  constructor
  · rintro⟨hc,_,_,b,hb,h2,h3⟩
    have hb':=BO.1 hb
    exact⟨hc,b,hb'.1,hb'.2,h2,fun hq=>h3 (BO.2 ⟨hc,hq⟩)⟩
  · rintro⟨hc,b,hb,h2,h3,h4⟩
    exact⟨hc,hc,rfl,b,BO.2 ⟨hb,h2⟩,h3,fun hq=>h4 (BO.1 hq).2⟩
theorem FK {y:Ag} {l:List Int} (h:Ez y l=true):l.Pairwise (· < ·)∧(∀ b∈l,b∈Ai y.buses.length)∧(l.length:Int)≤y.broken:=by
  unfold Ez at h
  simp only [Bool.and_eq_true,decide_eq_true_eq] at h
  have key:∀ (l:List Int)(last:Int),NG y last l=true→(last::l).Pairwise (· < ·)∧∀ b∈l,b∈Ai y.buses.length:=by
    intro l
    induction l with
    | nil=>intro last _; simp
    | cons b r ih =>
      intro last hq
      unfold NG at hq
      simp only [Bool.and_eq_true,decide_eq_true_eq] at hq
      obtain⟨q1,q2⟩:=ih b hq.2.2
      refine⟨?_,fun c hc=>?_⟩
      · rw [List.pairwise_cons]
        refine⟨fun c hc=>?_,q1⟩
        rcases List.mem_cons.1 hc with rfl | hc
        · exact hq.2.1
        · rw [List.pairwise_cons] at q1
          have:=q1.1 c hc
          omega
      · rcases List.mem_cons.1 hc with rfl | hc
        · exact Bc.1 hq.1
        · exact q2 c hc
  obtain⟨q1,q2⟩:=key l (-1) h.1
  rw [List.pairwise_cons] at q1
  exact⟨q1.2,q2,h.2⟩
theorem JT {y:Ag} {l:List Int} (h1:l.Pairwise (· < ·)) (h2:∀ b∈l,b∈Ai y.buses.length) (h3:(l.length:Int)≤y.broken):Ez y l=true:=by
  unfold Ez
  rw [decide_eq_true h3,Bool.and_true]
  refine Pk y l (-1) ?_ h2
  rw [List.pairwise_cons]
  exact⟨fun b hb=>by have:=Ap.1 (h2 b hb); omega,h1⟩
theorem Jz (y:Ag):∀ (l pre:List Int),Lx y pre l=true→l.Pairwise (fun a b=>(An y a).lo≤(An y b).hi)∧∀ a∈pre,∀ b∈l,(An y a).lo≤(An y b).hi
  | [],pre,_=>by simp
  | b::r,pre,h=>by
    unfold Lx QP at h
    simp only [Bool.and_eq_true,Bool.not_eq_true',Bool.or_eq_false_iff] at h
    obtain⟨⟨h1,h2,h3⟩,h4⟩:=h
    obtain⟨q1,q2⟩:=Jz y r (pre++[b]) h4
    have h5:∀ a∈pre,(An y a).lo≤(An y b).hi:=fun a ha=>by
      have:=List.any_eq_false.1 h3 a ha
      simp at this
      exact this
    refine⟨?_,fun a ha c hc=>?_⟩
    · rw [List.pairwise_cons]
      exact⟨fun c hc=>q2 b (by simp) c hc,q1⟩
    · rcases List.mem_cons.1 hc with rfl | hc
      · exact h5 a ha
      · exact q2 a (by simp [ha]) c hc
end Go.Proofs.Ythcbemnflgjadaa
namespace Go.Proofs.Ythcbemnflgjadaa
open Go Go.RowKit
theorem FL {l:List Int} {x:Int}:AE l x=true↔x∈l:=by simp [AE]
end Go.Proofs.Ythcbemnflgjadaa
namespace Go.Proofs.Ythcbemnflgjadaa
open Go Go.RowKit
def inl (lanes:List Int) (l b:Int):Bool:=AA lanes b == l
section
variable {y:Ag} {lanes:List Int} {l:Int}
theorem JU {m:List Int} {b:Int} (h:b∈m):BW m b<m.length:=by
  unfold BW
  have:=List.idxOf_lt_length_iff.2 h
  simp [h]
  omega
theorem Pn {m:List Int} {b:Int} (h:b∈m):m[(BW m b).toNat]? = some b:=by
  unfold BW
  have h1:=List.idxOf_lt_length_iff.2 h
  simp only [List.contains_iff_mem,h,if_true,Int.toNat_natCast]
  rw [List.getElem?_eq_getElem h1,List.getElem_idxOf]
theorem Sd {m:List Int} (hn:m.Nodup) {k:Nat} (hk:k<m.length):BW m m[k]=k:=by
  have h1:=List.getElem_mem hk
  have h2:=Pn h1
  have h3:=JU h1
  have h4:=(EJ m m[k]).1
  have h5:(BW m m[k]).toNat<m.length:=by omega
  rw [List.getElem?_eq_getElem h5] at h2
  have:=(List.getElem_inj hn).1 (Option.some.inj h2)
  omega
theorem QR:∀ (l s:List Int),(∀ t∈l,t ∉ s)→l.Nodup→Ey s l=false
  | [],_,_,_=>rfl
  | t::r,s,h1,h2=>by
    rw [List.nodup_cons] at h2
    unfold Ey
    have:=h1 t (by simp)
    rw [show s.contains t=false by simpa using this,Bool.false_or]
    refine QR r (s++[t]) (fun u hu=>?_) h2.2
    have h3:=h1 u (by simp [hu])
    have h4:u≠t:=fun he=>h2.1 (he▸hu)
    simp [h3,h4]
theorem NI {f:Int→Int}:∀ {l:List Int},l.Nodup→(∀ a∈l,∀ b∈l,f a=f b→a=b)→(l.map f).Nodup
  | [],_,_=>List.nodup_nil
  | a::r,hn,hf=>by
    rw [List.nodup_cons] at hn
    rw [List.map_cons,List.nodup_cons]
    refine⟨fun hm=>?_,NI hn.2 fun x hx z hz=>hf x (by simp [hx]) z (by simp [hz])⟩
    obtain⟨b,hb,he⟩:=List.mem_map.1 hm
    have:=hf b (by simp [hb]) a (by simp) he
    exact hn.1 (this▸hb)
end
theorem IF (room:List Int):∀ (l pre:List Int),Cs room pre l=true→∀ b∈l,DO b 0 ((room.length:Int)-1)=true
  | [],_,_,b,h=>by simp at h
  | a::r,pre,h,b,hb=>by
    rw [Cs] at h
    simp only [Bool.and_eq_true] at h
    rcases List.mem_cons.1 hb with rfl | hb
    · exact h.1
    · exact IF room r _ h.2.2 b hb
end Go.Proofs.Ythcbemnflgjadaa
namespace Go.Proofs.Ythcbemnflgjadaa
open Go Go.RowKit
def Se (x:Ao) (b t:Int):Ao:=(Ao.setI x b t).getD x
theorem O7 (x:Ao) {b:Int} (h0:0≤b) (h8:b<8) (t:Int):Ao.setI x b t=some (Se x b t):=by
  rcases x with⟨x0,x1,x2,x3,x4,x5,x6,x7⟩
  rcases Mt h0 h8 with h | h | h | h | h | h | h | h <;> subst h <;> rfl
def CT (b t last:Int) (f:AM):AM:=⟨if t≤last then f.many+1 else f.many,Se f.tm b t⟩
def Hh (y:Ag) (down:Int):List Int→Int→Int→AM
  | [],_,_=>⟨0,⟨0,0,0,0,0,0,0,0⟩⟩
  | b::r,i,last =>
    bif decide ((CT b (An y b).hi last (Hh y down r (i+1) (if i<down then max last (An y b).hi else last))).many>(CT b (An y b).lo last (Hh y down r (i+1) (if i<down then max last (An y b).lo else last))).many)
    then CT b (An y b).hi last (Hh y down r (i+1) (if i<down then max last (An y b).hi else last))
    else CT b (An y b).lo last (Hh y down r (i+1) (if i<down then max last (An y b).lo else last))
theorem L4 {b t last:Int} {f:AM} {k:Nat} (h:0≤f.many∧f.many≤k):0≤(CT b t last f).many∧(CT b t last f).many≤((k+1:Nat):Int):=by
  unfold CT
  simp only
  split <;> omega
theorem EK (y:Ag) (down:Int):∀ (l:List Int)(i last:Int),0≤(Hh y down l i last).many∧(Hh y down l i last).many≤l.length
  | [],_,_=>by simp [Hh]
  | b::r,i,last=>by
    have h1:=L4 (b:=b) (t:=(An y b).hi) (last:=last) (EK y down r (i+1) (if i<down then max last (An y b).hi else last))
    have h2:=L4 (b:=b) (t:=(An y b).lo) (last:=last) (EK y down r (i+1) (if i<down then max last (An y b).lo else last))
    unfold Hh
    rw [List.length_cons]
    cases decide ((CT b (An y b).hi last (Hh y down r (i+1) (if i<down then max last (An y b).hi else last))).many>(CT b (An y b).lo last (Hh y down r (i+1) (if i<down then max last (An y b).lo else last))).many) with
    | true=>exact h1
    | false=>exact h2
def Po (y:Ag) (c:Av) (known:List (Bt×AM)):Prop:=∀ (s:Bt)(f:AM),CY known s=some f→f=Hh y c.down (c.buses.drop s.behind.toNat) s.behind s.last
theorem Po.nil (y:Ag) (c:Av):Po y c []:=fun s f h=>by simp [CY] at h
theorem Po.put {y:Ag} {c:Av} {known:List (Bt×AM)} (h:Po y c known) {s:Bt} {f:AM} (hf:f=Hh y c.down (c.buses.drop s.behind.toNat) s.behind s.last):Po y c (Gn known s f):=fun s' f' h'=>by
  rw [GE] at h'
  split at h'
  · rename_i he
    subst he
    cases h'
    exact hf
  · exact h s' f' h'
theorem J0 {y:Ag} {c:Av} (hb:y.buses.length≤8) (hc:∀ b∈c.buses,b∈Ai y.buses.length) (hl:c.buses.length≤1000):∀ (r n i:Nat)(last:Int)(known:List (Bt×AM)),3*r+5≤n→i+r=c.buses.length→Po y c known →
    ∃ known',lane_Yard_worst_1 n ⟨(i:Int),last⟩ c known y=some (Hh y c.down (c.buses.drop i) (i:Int) last,known')∧Po y c known'
  | 0,n,i,last,known,hn,hi,hm=>by
    obtain⟨n,rfl⟩:∃ m,n=m+1:=⟨n-1,by omega⟩
    have:i=c.buses.length:=by omega
    subst this
    refine⟨known,?_,hm⟩
    rw [lane_Yard_worst_1]
    simp [Hh]
  | r+1,n,i,last,known,hn,hi,hm=>by
    obtain⟨n,rfl⟩:∃ m,n=m+4:=⟨n-4,by omega⟩
    have hil:i<c.buses.length:=by omega
    rw [lane_Yard_worst_1]
    have e0:((i:Int) == ((c.buses.length:Nat):Int))=false:=by
      cases hq:((i:Int) == ((c.buses.length:Nat):Int)) with
      | false=>rfl
      | true=>rw [beq_iff_eq] at hq; omega
    dsimp only
    rw [e0,cond_false]
    simp only [Option.bind_some]
    unfold DX
    cases hk:CY known ⟨(i:Int),last⟩ with
    | some f =>
      have:=hm _ _ hk
      simp only [Int.toNat_natCast] at this
      exact⟨known,by simp [this],hm⟩
    | none =>
      have hbm:=hc _ (List.getElem_mem hil)
      have hbr:=Ap.1 hbm
      have h8:c.buses[i]<8:=by omega
      simp only [cond_false,DN _ _ hil,Option.bind_some,II]
      obtain⟨k1,a1,m1⟩:=J0 hb hc hl r (n+2) (i+1) (if (i:Int)<c.down then max last (An y c.buses[i]).lo else last) known (by omega) (by omega) hm
      obtain⟨k2,a2,m2⟩:=J0 hb hc hl r (n+1) (i+1) (if (i:Int)<c.down then max last (An y c.buses[i]).hi else last) k1 (by omega) (by omega) m1
      obtain⟨n,rfl⟩:∃ m,n=m+1:=⟨n-1,by omega⟩
      have w0:IntKind.i64.wrap ((i:Int)+1)=((i+1:Nat):Int):=DT i (by omega)
      have r1:=EK y c.down (c.buses.drop (i+1)) ((i:Int)+1) (if (i:Int)<c.down then max last (An y c.buses[i]).lo else last)
      have r2:=EK y c.down (c.buses.drop (i+1)) ((i:Int)+1) (if (i:Int)<c.down then max last (An y c.buses[i]).hi else last)
      rw [List.length_drop] at r1 r2
      rw [show((i+1:Nat):Int)=(i:Int)+1 by omega] at a1 a2 w0
      have wy1:AH (n+4) ⟨(i:Int),last⟩ c y c.buses[i] [BP.mk fun y0=>Bm (n+4) y0,BP.mk fun y0=>Bd (n+4) y0] 0 ⟨0,0,0,0,0,0,0,0⟩ 0 known =
          some ((Hh y c.down (c.buses.drop i) (i:Int) last).tm,(Hh y c.down (c.buses.drop i) (i:Int) last).many,k2):=by
        have last1:((bif decide ((i:Int)<c.down) then((C0 (n+3) ([last,(An y c.buses[i]).lo]:List Int)).bind fun x67=>some x67) else some last):Option Int)=some (if (i:Int)<c.down then max last (An y c.buses[i]).lo else last):=by
          by_cases hd:(i:Int)<c.down
          · rw [decide_eq_true hd,cond_true,O3 (n+1),if_pos hd]; rfl
          · rw [decide_eq_false hd,cond_false,if_neg hd]
        have last2:((bif decide ((i:Int)<c.down) then((C0 (n+2) ([last,(An y c.buses[i]).hi]:List Int)).bind fun x67=>some x67) else some last):Option Int)=some (if (i:Int)<c.down then max last (An y c.buses[i]).hi else last):=by
          by_cases hd:(i:Int)<c.down
          · rw [decide_eq_true hd,cond_true,O3 n,if_pos hd]; rfl
          · rw [decide_eq_false hd,cond_false,if_neg hd]
        have many1:∀ (t:Int)(f:AM),0≤f.many∧f.many≤1000→((bif decide (t≤last) then some (IntKind.i64.wrap (f.many+1)) else some f.many):Option Int)=some (CT c.buses[i] t last f).many:=fun t f hf=>by
          unfold CT
          by_cases hd:t≤last
          · rw [decide_eq_true hd,cond_true,HI (by omega) (by omega)]; simp [hd]
          · rw [decide_eq_false hd,cond_false]; simp [hd]
        have z1:IntKind.i64.wrap (0+1)=1:=by decide
        have z2:IntKind.i64.wrap (1+1)=2:=by decide
        rw [AH]
        rw [show decide ((0:Int)<((([BP.mk fun y0=>Bm (n+4) y0,BP.mk fun y0=>Bd (n+4) y0]:List BP).length:Nat):Int))=true from rfl,cond_true]
        rw [show Bv [BP.mk fun y0=>Bm (n+4) y0,BP.mk fun y0=>Bd (n+4) y0] (0:Int)=some (BP.mk fun y0=>Bm (n+4) y0) from rfl]
        simp only [Option.bind_some,EV y (Bc.2 hbm),Bm,last1,w0,a1]
        rw [many1 _ _ ⟨r1.1,by omega⟩]
        simp only [Option.bind_some,beq_self_eq_true,cond_true,Ms hbr.1 h8,O7 _ hbr.1 h8,z1]
        rw [AH]
        rw [show decide ((1:Int)<((([BP.mk fun y0=>some y0.lo,BP.mk fun y0=>Bd (n+4) y0]:List BP).length:Nat):Int))=true from rfl,cond_true]
        rw [show Bv [BP.mk fun y0=>some y0.lo,BP.mk fun y0=>Bd (n+4) y0] (1:Int)=some (BP.mk fun y0=>Bd (n+4) y0) from rfl]
        simp only [Option.bind_some,EV y (Bc.2 hbm),Bd,last2,w0,a2]
        rw [many1 _ _ ⟨r2.1,by omega⟩]
        rw [show((1:Int) == 0)=false from rfl]
        simp only [Option.bind_some,cond_false,Ms hbr.1 h8,O7 _ hbr.1 h8,z2]
        rw [AH,AH]
        rw [show ∀ (q:List BP),q=[BP.mk fun y0=>some y0.lo,BP.mk fun y0=>some y0.hi]→decide ((2:Int)<((q.length:Nat):Int))=false from fun q hq=>by rw [hq]; rfl] <;> try rfl
        simp only [cond_false]
        conv=>rhs; rw [Ca hil,Hh]
        cases decide ((CT c.buses[i] (An y c.buses[i]).hi last (Hh y c.down (c.buses.drop (i+1)) ((i:Int)+1) (if (i:Int)<c.down then max last (An y c.buses[i]).hi else last))).many>(CT c.buses[i] (An y c.buses[i]).lo last (Hh y c.down (c.buses.drop (i+1)) ((i:Int)+1) (if (i:Int)<c.down then max last (An y c.buses[i]).lo else last))).many) <;> rfl
      refine⟨Gn k2 ⟨(i:Int),last⟩ (Hh y c.down (c.buses.drop i) (i:Int) last),?_,m2.put (by simp only [Int.toNat_natCast])⟩
      rw [wy1]
      rfl
theorem Pp (n:Nat) {y:Ag} {c:Av} (hb:y.buses.length≤8) (hc:∀ b∈c.buses,b∈Ai y.buses.length) (hl:c.buses.length≤1000) (hn:3*c.buses.length+5≤n):BV n y c=some (Hh y c.down c.buses 0 (-1)):=by
  unfold BV
  obtain⟨k,h1,_⟩:=J0 hb hc hl c.buses.length n 0 (-1) [] hn (by omega) (Po.nil y c)
  rw [show((0:Nat):Int)=0 from rfl,List.drop_zero] at h1
  rw [h1]
  rfl
end Go.Proofs.Ythcbemnflgjadaa
namespace Go.Proofs.Ythcbemnflgjadaa
open Go Go.RowKit
section
variable {α:Type}
def B8 (m:Nat) (g:Int→α):List α:=(Ai m).map g
theorem DV (m:Nat) (g:Int→α):(B8 m g).length=m:=by simp [B8,B3]
theorem JV {m:Nat} {g:Int→α} {k:Nat} (h:k<m):(B8 m g)[k]? = some (g (k:Int)):=by
  unfold B8 Ai
  rw [List.getElem?_map,List.getElem?_map,List.getElem?_range h]
  rfl
theorem M1 {m:Nat} {g:Int→α} {b:Int} (h:DO b 0 ((m:Int)-1)=true):Bv (B8 m g) b=some (g b):=by
  rw [AI] at h
  obtain⟨k,rfl⟩:=Int.eq_ofNat_of_zero_le h.1
  rw [Rv,JV (by omega)]
theorem M2 {m:Nat} {g:Int→α} {l:List α} (hl:l.length=m) (h:∀ k,k<m→l[k]? = some (g (k:Int))):l=B8 m g:=by
  apply List.ext_getElem?
  intro k
  rcases Nat.lt_or_ge k m with hk | hk
  · rw [h k hk,JV hk]
  · rw [List.getElem?_eq_none (by omega),List.getElem?_eq_none (by rw [DV]; omega)]
theorem JW {m:Nat} {g:Int→α} {b:Int} {v:α} (h:DO b 0 ((m:Int)-1)=true):upd (B8 m g) b v=some (B8 m fun x=>if x=b then v else g x):=by
  rw [AI] at h
  obtain⟨k,rfl⟩:=Int.eq_ofNat_of_zero_le h.1
  rw [TB _ _ _ (by rw [DV]; omega)]
  congr 1
  refine M2 (by rw [List.length_set,DV]) fun j hj=>?_
  by_cases hjk:j=k
  · subst hjk
    rw [List.getElem?_set_self (by rw [DV]; omega)]
    simp
  · rw [List.getElem?_set_ne (Ne.symm hjk),JV hj,if_neg (by omega)]
theorem R1 (m:Nat) (x:α):List.replicate m x=B8 m fun _=>x:=M2 (by simp) fun k hk=>by
  rw [List.getElem?_replicate,if_pos hk]
theorem Hi {m:Nat} {f g:Int→α} (h:∀ x,f x=g x):B8 m f=B8 m g:=by rw [funext h]
end
def Cb (y:Ag) (lanes:List Int) (f:Int→Bool) (k:Int):Av :=
  ⟨(AX y f).filter (inl lanes k)++((Ai y.buses.length).filter f).filter (inl lanes k),(((AX y f).filter (inl lanes k)).length:Int)⟩
def BT (y:Ag) (lanes:List Int) (f:Int→Bool):List Av:=B8 y.room.length (Cb y lanes f)
def F3 (lanes:List Int) (ts:List Int) (k:Int):Av:=⟨ts.filter (inl lanes k),((ts.filter (inl lanes k)).length:Int)⟩
theorem Qu (lanes ts:List Int) (b k:Int):F3 lanes (ts++[b]) k=if k=AA lanes b then⟨(F3 lanes ts k).buses++[b],(F3 lanes ts k).down+1⟩ else F3 lanes ts k:=by
  unfold F3
  rw [List.filter_append]
  by_cases h:k=AA lanes b
  · have:inl lanes k b=true:=by simp [inl,h]
    rw [if_pos h]
    simp [this]
  · have:inl lanes k b=false:=by
      unfold inl
      cases hq:(AA lanes b == k) with
      | false=>rfl
      | true=>rw [beq_iff_eq] at hq; exact absurd hq.symm h
    rw [if_neg h]
    simp [this]
theorem JX (y:Ag) (lanes:List Int) (hl:lanes.length=y.buses.length) (hin:∀ b∈Ai y.buses.length,DO (AA lanes b) 0 ((y.room.length:Int)-1)=true)
    (step:List Av→Int→Option (List Av))
    (hstep:step=fun s x19=>((Bv lanes x19).bind fun x23=>((Bv s x23).bind fun x25=>((Mb x25.buses ([x19]:List Int)).bind fun x33=>((upd s x23 ({ x25 with buses:=x33 }:Av)).bind fun u_144 =>
      ((upd u_144 x23 ({ ({ x25 with buses:=x33 }:Av) with down:=IntKind.i64.wrap (x25.down+1) }:Av)).bind fun u_169=>some u_169)))))) :
    ∀ (ts done:List Int),(∀ b∈ts,b∈Ai y.buses.length)→done.length+ts.length≤1000→ts.foldlM step (B8 y.room.length (F3 lanes done))=some (B8 y.room.length (F3 lanes (done++ts)))
  | [],done,_,_=>by simp
  | b::r,done,h,hlen=>by
    have hb:=h b (by simp)
    have hbr:=Ap.1 hb
    have hbt:=hin b hb
    have hpl:(done.filter (inl lanes (AA lanes b))).length≤done.length:=List.length_filter_le _ _
    have hs:step (B8 y.room.length (F3 lanes done)) b=some (B8 y.room.length (F3 lanes (done++[b]))):=by
      rw [hstep]
      simp only [JP lanes hbr.1 (show b<lanes.length by omega),Option.bind_some,M1 hbt]
      rw [FH _ _ (by unfold F3; simp at hlen ⊢; omega)]
      simp only [Option.bind_some,JW hbt]
      congr 1
      refine Hi fun k=>?_
      rw [Qu]
      by_cases hk:k=AA lanes b
      · rw [if_pos hk,if_pos hk,hk]
        congr 1
        unfold F3
        simp at hlen
        exact HI (by simp only; omega) (by simp only; omega)
      · rw [if_neg hk,if_neg hk,if_neg hk]
    rw [List.foldlM_cons,hs]
    show r.foldlM step (B8 y.room.length (F3 lanes (done++[b])))=_
    rw [JX y lanes hl hin step hstep r (done++[b]) (fun c hc=>h c (by simp [hc])) (by simp at hlen ⊢; omega),List.append_assoc]
    rfl
def GG (y:Ag) (lanes:List Int) (f:Int→Bool) (i:Nat) (k:Int):Av :=
  ⟨(AX y f).filter (inl lanes k)++((Ai i).filter f).filter (inl lanes k),(((AX y f).filter (inl lanes k)).length:Int)⟩
theorem IY (y:Ag) (lanes:List Int) (f:Int→Bool) (hy:y.buses.length≤8) (hl:lanes.length=y.buses.length) (hin:∀ b∈Ai y.buses.length,DO (AA lanes b) 0 ((y.room.length:Int)-1)=true):∀ (n i:Nat),y.buses.length<n+i→i≤y.buses.length →
    Be n y lanes (A8 f) (B8 y.room.length (GG y lanes f i)) (i:Int)=some (BT y lanes f)
  | 0,i,h,hi=>by omega
  | n+1,i,h,hi=>by
    rw [Be,BN]
    by_cases hx:i<y.buses.length
    · have h0:(0:Int)≤(i:Int):=by omega
      have h8:(i:Int)<8:=by omega
      have hm:(i:Int)∈Ai y.buses.length:=by rw [Ap]; omega
      have hbt:=hin _ hm
      have ih:=IY y lanes f hy hl hin n (i+1) (by omega) (by omega)
      simp only [hx,decide_true,cond_true,Ms h0 h8,JL _ h0 h8,Option.bind_some]
      rw [DT i (by omega)]
      cases hf:f (i:Int) with
      | false =>
        have e1:B8 y.room.length (GG y lanes f i)=B8 y.room.length (GG y lanes f (i+1)):=Hi fun k=>by
          unfold GG
          rw [Cy,List.filter_append]
          simp [hf]
        simp only [cond_false]
        rw [e1]
        exact ih
      | true =>
        have hl1:=List.length_filter_le (inl lanes (AA lanes (i:Int))) (AX y f)
        have hl2:=List.length_filter_le (inl lanes (AA lanes (i:Int))) ((Ai i).filter f)
        have hl3:=List.length_filter_le f (Ai i)
        rw [B3] at hl3
        have hl4:=Jw y f
        simp only [cond_true,JP lanes h0 (show(i:Int)<lanes.length by omega),Option.bind_some,M1 hbt]
        rw [FH _ _ (by unfold GG; rw [List.length_append,List.length_singleton]; omega)]
        simp only [Option.bind_some,JW hbt]
        have e1:(B8 y.room.length fun x=>if x=AA lanes (i:Int) then({ GG y lanes f i (AA lanes (i:Int)) with buses:=(GG y lanes f i (AA lanes (i:Int))).buses++[(i:Int)] }:Av) else GG y lanes f i x)=B8 y.room.length (GG y lanes f (i+1)):=Hi fun k=>by
          by_cases hk:k=AA lanes (i:Int)
          · have hq:inl lanes k (i:Int)=true:=by simp [inl,hk]
            rw [if_pos hk,← hk]
            unfold GG
            rw [Cy,List.filter_append,List.filter_append]
            simp [hf,hq]
          · have hq:inl lanes k (i:Int)=false:=by
              unfold inl
              cases hz:(AA lanes (i:Int) == k) with
              | false=>rfl
              | true=>rw [beq_iff_eq] at hz; exact absurd hz.symm hk
            rw [if_neg hk]
            unfold GG
            rw [Cy,List.filter_append,List.filter_append]
            simp [hf,hq]
        rw [e1]
        exact ih
    · have:i=y.buses.length:=by omega
      subst this
      simp only [Nat.lt_irrefl,decide_false,cond_false]
      rfl
theorem M3 (n:Nat) (y:Ag) (lanes:List Int) (f:Int→Bool) (hm:y.room.length≤1000) (hy:y.buses.length≤8) (hv:y.buses.all CS=true) (hl:lanes.length=y.buses.length) (hin:∀ b∈Ai y.buses.length,DO (AA lanes b) 0 ((y.room.length:Int)-1)=true) (hn:20≤n) :
    Cr n y lanes (A8 f)=some (BT y lanes f):=by
  unfold Cr
  have htl:=Jw y f
  rw [Uh _ _ (by omega),Option.bind_some,RX n y f hy hv hn,Option.bind_some]
  have h1:=JX y lanes hl hin _ rfl (AX y f) [] (fun b hb=>(BO.1 hb).1) (by simp; omega)
  have h2:=(Ry n _ (B8 y.room.length (F3 lanes [])) (AX y f) (by omega) (by omega)).trans h1
  rw [R1,show(B8 y.room.length fun _=>(Av.mk ([]:List Int) 0))=B8 y.room.length (F3 lanes []) from rfl,h2,Option.bind_some,List.nil_append]
  have h3:=IY y lanes f hy hl hin n 0 (by omega) (by omega)
  rw [show((0:Nat):Int)=0 from rfl,show B8 y.room.length (GG y lanes f 0)=B8 y.room.length (F3 lanes (AX y f)) from Hi fun k=>by unfold GG F3; simp [Ai]] at h3
  rw [h3]
  rfl
theorem FM {y:Ag} {lanes:List Int} (h:AW y lanes=true):lanes.length=y.buses.length∧∀ b∈Ai y.buses.length,DO (AA lanes b) 0 ((y.room.length:Int)-1)=true:=by
  unfold AW at h
  simp only [Bool.and_eq_true,decide_eq_true_eq] at h
  refine⟨h.1,fun b hb=>?_⟩
  have hbr:=Ap.1 hb
  have hcl:b.toNat<lanes.length:=by omega
  have:=IF _ _ _ h.2 _ (List.getElem_mem hcl)
  unfold AA
  rw [List.getD_eq_getElem?_getD,List.getElem?_eq_getElem hcl]
  exact this
theorem DD {y:Ag} {lanes:List Int} {f:Int→Bool} {k b:Int}:b∈(Cb y lanes f k).buses↔b∈Ai y.buses.length∧inl lanes k b=true:=by
  unfold Cb
  rw [List.mem_append,List.mem_filter,List.mem_filter,List.mem_filter,BO]
  constructor
  · rintro(⟨⟨h1,_⟩,h2⟩ | ⟨⟨h1,_⟩,h2⟩) <;> exact⟨h1,h2⟩
  · rintro⟨h1,h2⟩
    cases hf:f b with
    | false=>exact .inl ⟨⟨h1,rfl⟩,h2⟩
    | true=>exact .inr ⟨⟨h1,rfl⟩,h2⟩
theorem O8 (y:Ag) (lanes:List Int) (f:Int→Bool) (k:Int):(Cb y lanes f k).buses.length≤2*y.buses.length:=by
  unfold Cb
  have h1:=List.length_filter_le (inl lanes k) (AX y f)
  have h2:=Jw y f
  have h3:=List.length_filter_le (inl lanes k) ((Ai y.buses.length).filter f)
  have h4:=List.length_filter_le f (Ai y.buses.length)
  rw [B3] at h4
  rw [List.length_append]
  omega
end Go.Proofs.Ythcbemnflgjadaa
namespace Go.Proofs.Ythcbemnflgjadaa
open Go Go.RowKit
def LY (f:Int→Bool) (b:Int):Int→Bool:=fun x=>if x=b then true else f x
def HB (N:Nat):Nat→Nat→(Int→Bool)→List (Int→Bool)
  | _,0,_=>[]
  | 0,_+1,_=>[]
  | m+1,r+1,f=>(LY f ((N-(r+1):Nat):Int)::HB N m r (LY f ((N-(r+1):Nat):Int)))++HB N (m+1) r f
theorem JY (N:Nat):∀ (r m:Nat)(f:Int→Bool),(HB N m r f).length+1≤2 ^ r
  | 0,m,f=>by cases m <;> simp [HB]
  | r+1,0,f=>by
    have:1≤2 ^ (r+1):=Nat.one_le_two_pow
    simpa [HB] using this
  | r+1,m+1,f=>by
    have h1:=JY N r m (LY f ((N-(r+1):Nat):Int))
    have h2:=JY N r (m+1) f
    rw [HB,List.length_append,List.length_cons,Nat.pow_succ]
    omega
theorem KV (y:Ag) (hy:y.buses.length≤8):∀ (r n i m:Nat)(out:List Ar)(f:Int→Bool),2*r+1≤n→i+r=y.buses.length→m≤2→out.length+2 ^ r≤1000000 →
    Ba n (A8 f) (m:Int) y out (i:Int)=some (out++(HB y.buses.length m r f).map A8)
  | 0,n,i,m,out,f,hn,hi,hm,ho=>by
    obtain⟨n,rfl⟩:∃ k,n=k+1:=⟨n-1,by omega⟩
    have:i=y.buses.length:=by omega
    rw [Ba,BN,this]
    cases m <;> simp [HB]
  | r+1,n,i,m,out,f,hn,hi,hm,ho=>by
    obtain⟨n,rfl⟩:∃ k,n=k+2:=⟨n-2,by omega⟩
    have hx:i<y.buses.length:=by omega
    have h0:(0:Int)≤(i:Int):=by omega
    have h8:(i:Int)<8:=by omega
    have hp:2 ^ (r+1)=2 ^ r+2 ^ r:=by rw [Nat.pow_succ]; omega
    have hp1:1≤2 ^ r:=Nat.one_le_two_pow
    rw [Ba,BN]
    cases m with
    | zero=>simp [hx,HB]
    | succ m =>
      have g1:decide (((m+1:Nat):Int)>0)=true:=decide_eq_true (by omega)
      have w1:IntKind.i64.wrap (((m+1:Nat):Int)-1)=(m:Int):=by rw [HI (by omega) (by omega)]; omega
      have hb:((y.buses.length-(r+1):Nat):Int)=(i:Int):=by omega
      simp only [hx,decide_true,cond_true,g1,Option.bind_some,Ms h0 h8,Pd f h0 h8,w1]
      rw [DT i (by omega),show(A8 fun x=>if x=(i:Int) then true else f x)=A8 (LY f (i:Int)) from rfl]
      have hl:=JY y.buses.length r m (LY f (i:Int))
      have e1:lane_Yard_breaks_1 (n+1) (A8 (LY f (i:Int))) ((i+1:Nat):Int) (m:Int) out y=some (out++(LY f (i:Int)::HB y.buses.length m r (LY f (i:Int))).map A8):=by
        rw [lane_Yard_breaks_1,FH _ _ (by simp; omega),Option.bind_some,KV y hy r n (i+1) m _ _ (by omega) (by omega) (by omega) (by simp; omega),Option.bind_some]
        simp
      rw [e1,Option.bind_some,KV y hy r (n+1) (i+1) (m+1) _ _ (by omega) (by omega) (by omega) (by simp; omega),HB,hb]
      simp
def Bk (y:Ag):List (Int→Bool):=(fun _=>false)::HB y.buses.length y.broken.toNat y.buses.length fun _=>false
theorem NJ (n:Nat) {y:Ag} (hy:y.buses.length≤8) (hb:DO y.broken 0 2=true) (hn:20≤n):C4 n y=some ((Bk y).map A8):=by
  have hb':=AI.1 hb
  obtain⟨m,hm⟩:=Int.eq_ofNat_of_zero_le hb'.1
  obtain⟨n,rfl⟩:∃ k,n=k+1:=⟨n-1,by omega⟩
  have hp:2 ^ y.buses.length≤2 ^ 8:=Nat.pow_le_pow_right (by omega) hy
  unfold C4
  rw [lane_Yard_breaks_1,FH _ _ (by simp),Option.bind_some,hm]
  have h1:=KV y hy y.buses.length n 0 m ([]++[A8 fun _=>false]) (fun _=>false) (by omega) (by omega) (by omega) (by simp; omega)
  rw [show((0:Nat):Int)=0 from rfl] at h1
  rw [Tp,show A8 (AE [])=A8 (fun _=>false) from Hf fun x=>by simp [AE],h1]
  unfold Bk
  rw [hm]
  simp
theorem JZ (y:Ag) (hy:y.buses.length≤8):(Bk y).length≤256:=by
  have h1:=JY y.buses.length y.buses.length y.broken.toNat fun _=>false
  have hp:2 ^ y.buses.length≤2 ^ 8:=Nat.pow_le_pow_right (by omega) hy
  unfold Bk
  rw [List.length_cons]
  omega
def BI (x:Ao) (b:Int):Int:=x.toL.getD b.toNat 0
theorem J1 (x:Ao) {b:Int} (h0:0≤b) (h8:b<8):Bv x.toL b=some (BI x b):=by
  rcases x with⟨x0,x1,x2,x3,x4,x5,x6,x7⟩
  rcases Mt h0 h8 with h | h | h | h | h | h | h | h <;> subst h <;> rfl
def BX (y:Ag) (c:Av):AM:=Hh y c.down c.buses 0 (-1)
def M4 (f:AM) (l:List Int) (w:Ao):Ao:=l.foldl (fun w b=>Se w b (BI f.tm b)) w
theorem M5 {y:Ag} (hy:y.buses.length≤8) (c:Av) (hc:∀ b∈c.buses,b∈Ai y.buses.length) (hl:c.buses.length≤1000) (f:AM):∀ (n i:Nat)(w:Ao),c.buses.length<n+i→i≤c.buses.length →
    Bz n c f (i:Int) w=some (M4 f (c.buses.drop i) w)
  | 0,i,w,h,hi=>by omega
  | n+1,i,w,h,hi=>by
    rw [Bz,BN]
    by_cases hx:i<c.buses.length
    · have hb:=Ap.1 (hc _ (List.getElem_mem hx))
      have h8:c.buses[i]<8:=by omega
      simp only [hx,decide_true,cond_true,DN _ _ hx,Option.bind_some,Ms hb.1 h8,J1 f.tm hb.1 h8,O7 w hb.1 h8]
      rw [DT i (by omega),M5 hy c hc hl f n (i+1) _ (by omega) (by omega),Ca hx]
      rfl
    · have:i=c.buses.length:=by omega
      subst this
      simp [M4]
def J2 (y:Ag) (cs:List Av):Int:=(cs.map fun c=>(BX y c).many).sum
def Gt (y:Ag) (cs:List Av) (w:Ao):Ao:=cs.foldl (fun w c=>M4 (BX y c) c.buses w) w
theorem M6 {y:Ag} (hy:y.buses.length≤8) (cs:List Av) (hc:∀ c∈cs,(∀ b∈c.buses,b∈Ai y.buses.length)∧c.buses.length≤16) (hl:cs.length≤100):∀ (n i:Nat)(s:Int)(w:Ao),200≤n+i→i≤cs.length→0≤s∧s≤16*i →
    B0 n y cs (i:Int) s w=some (s+J2 y (cs.drop i),Gt y (cs.drop i) w)
  | 0,i,s,w,h,hi,_=>by omega
  | n+1,i,s,w,h,hi,hs=>by
    rw [B0,BN]
    by_cases hx:i<cs.length
    · obtain⟨c1,c2⟩:=hc _ (List.getElem_mem hx)
      have hr:=EK y cs[i].down cs[i].buses 0 (-1)
      have hl3:=M5 hy cs[i] c1 (by omega) (BX y cs[i]) n 0 w (by omega) (by omega)
      rw [show((0:Nat):Int)=0 from rfl,List.drop_zero] at hl3
      have hw:BV n y cs[i]=some (BX y cs[i]):=Pp n hy c1 (by omega) (by omega)
      simp only [hx,decide_true,cond_true,DN _ _ hx,Option.bind_some,hw,hl3]
      have hm0:0≤(BX y cs[i]).many∧(BX y cs[i]).many≤16:=⟨hr.1,by have:=hr.2; unfold BX; omega⟩
      rw [DT i (by omega),HI (by omega) (by omega),M6 hy cs hc hl n (i+1) _ _ (by omega) (by omega) ⟨by omega,by omega⟩,Ca hx]
      unfold J2 Gt
      rw [List.map_cons,List.sum_cons,List.foldl_cons]
      congr 2
      omega
    · have:i=cs.length:=by omega
      subst this
      simp [J2,Gt]
def FN:Ao:=⟨0,0,0,0,0,0,0,0⟩
def EL (y:Ag) (lanes:List Int) (f:Int→Bool):Int:=J2 y (BT y lanes f)
def Gu (y:Ag) (lanes:List Int) (f:Int→Bool):Ao:=Gt y (BT y lanes f) FN
def H5 (y:Ag) (lanes:List Int):List (Int→Bool)→Int×Ao×Ar→Int×Ao×Ar
  | [],s=>s
  | f::r,s=>H5 y lanes r (bif decide (EL y lanes f>s.1) then(EL y lanes f,Gu y lanes f,A8 f) else s)
theorem O9 {y:Ag} {lanes:List Int} {f:Int→Bool} (hy:y.buses.length≤8):∀ c∈BT y lanes f,(∀ b∈c.buses,b∈Ai y.buses.length)∧c.buses.length≤16:=fun c hc=>by
  unfold BT B8 at hc
  obtain⟨k,_,rfl⟩:=List.mem_map.1 hc
  exact⟨fun b hb=>(DD.1 hb).1,by have:=O8 y lanes f k; omega⟩
theorem J3 {y:Ag} {lanes:List Int} (hy:y.buses.length≤8) (hm:y.room.length≤3) (hv:y.buses.all CS=true) (hl:AW y lanes=true) (B:List (Int→Bool)) (hB:B.length≤256):∀ (n i:Nat)(s:Int×Ao×Ar),500≤n+i→i≤B.length →
    Bf n y lanes (B.map A8) (i:Int) s.1 s.2.1 s.2.2=some (H5 y lanes (B.drop i) s)
  | 0,i,s,h,hi=>by omega
  | n+1,i,s,h,hi=>by
    obtain⟨l1,l2⟩:=FM hl
    rw [Bf]
    rw [show decide ((i:Int)<(((B.map A8).length:Nat):Int))=decide (i<B.length) by rw [BN,List.length_map]]
    by_cases hx:i<B.length
    · have hix:Bv (B.map A8) (i:Int)=some (A8 B[i]):=by rw [Rv,List.getElem?_map,List.getElem?_eq_getElem hx]; rfl
      have h2:=M6 hy (BT y lanes B[i]) (O9 hy) (by unfold BT; rw [DV]; omega) n 0 0 FN (by omega) (by omega) (by omega)
      rw [show((0:Nat):Int)=0 from rfl,List.drop_zero,Int.zero_add] at h2
      simp only [hx,decide_true,cond_true,hix,Option.bind_some,M3 n y lanes B[i] (by omega) hy hv l1 l2 (by omega)]
      rw [show(Ao.mk 0 0 0 0 0 0 0 0)=FN from rfl,h2,Option.bind_some,DT i (by omega),Ca hx,H5]
      rw [show J2 y (BT y lanes B[i])=EL y lanes B[i] from rfl,show Gt y (BT y lanes B[i]) FN=Gu y lanes B[i] from rfl]
      cases decide (EL y lanes B[i]>s.1) with
      | true=>exact J3 hy hm hv hl B hB n (i+1) (EL y lanes B[i],Gu y lanes B[i],A8 B[i]) (by omega) (by omega)
      | false=>exact J3 hy hm hv hl B hB n (i+1) s (by omega) (by omega)
    · have:i=B.length:=by omega
      subst this
      simp [H5]
def FO (y:Ag) (lanes:List Int):Int×Ao×Ar:=H5 y lanes (Bk y) (-1,FN,A8 fun _=>false)
theorem Qv (n:Nat) {y:Ag} {lanes:List Int} (hf:AN y=0) (hl:AW y lanes=true) (hn:500≤n):CH n y lanes=some ((FO y lanes).2.1,(FO y lanes).2.2,(FO y lanes).1):=by
  obtain⟨v1,v0,v2,v3,v4,v5,v6⟩:=BE hf
  unfold CH
  rw [NJ n v2 v3 (by omega),Option.bind_some]
  have h1:=J3 v2 v1 v5 hl (Bk y) (JZ y v2) n 0 (-1,FN,A8 fun _=>false) (by omega) (by omega)
  rw [show((0:Nat):Int)=0 from rfl,List.drop_zero] at h1
  rw [show(Ao.mk 0 0 0 0 0 0 0 0)=FN from rfl,show(Ar.mk false false false false false false false false)=A8 (fun _=>false) from rfl,h1]
  rfl
def AD (y:Ag) (lanes:List Int):Int:=(FO y lanes).1
theorem HL (y:Ag) (lanes:List Int):∀ (B:List (Int→Bool))(s:Int×Ao×Ar),s.1≤(H5 y lanes B s).1∧∀ f∈B,EL y lanes f≤(H5 y lanes B s).1
  | [],s=>by simp [H5]
  | f::r,s=>by
    rw [H5]
    by_cases h:EL y lanes f>s.1
    · rw [decide_eq_true h,cond_true]
      obtain⟨h1,h2⟩:=HL y lanes r (EL y lanes f,Gu y lanes f,A8 f)
      refine⟨by simp only at h1; omega,fun g hg=>?_⟩
      rcases List.mem_cons.1 hg with rfl | hg
      · exact h1
      · exact h2 g hg
    · rw [decide_eq_false h,cond_false]
      obtain⟨h1,h2⟩:=HL y lanes r s
      refine⟨h1,fun g hg=>?_⟩
      rcases List.mem_cons.1 hg with rfl | hg
      · omega
      · exact h2 g hg
theorem KW (y:Ag) (lanes:List Int):∀ (B:List (Int→Bool))(s:Int×Ao×Ar),H5 y lanes B s=s∨∃ f∈B,H5 y lanes B s=(EL y lanes f,Gu y lanes f,A8 f)
  | [],s=>.inl rfl
  | f::r,s=>by
    rw [H5]
    cases decide (EL y lanes f>s.1) with
    | true =>
      rcases KW y lanes r (EL y lanes f,Gu y lanes f,A8 f) with h | ⟨g,hg,h⟩
      · exact .inr ⟨f,by simp,h⟩
      · exact .inr ⟨g,by simp [hg],h⟩
    | false =>
      rcases KW y lanes r s with h | ⟨g,hg,h⟩
      · exact .inl h
      · exact .inr ⟨g,by simp [hg],h⟩
end Go.Proofs.Ythcbemnflgjadaa
namespace Go.Proofs.Ythcbemnflgjadaa
open Go Go.RowKit
def HM (down:Int) (m:Int→Int):List Int→Int→Int→Int
  | [],_,_=>0
  | b::r,i,last=>(if m b≤last then 1 else 0)+HM down m r (i+1) (if i<down then max last (m b) else last)
def SS (y:Ag) (down:Int):List Int→Int→Int→Int
  | [],_,_=>0
  | b::r,i,last=>max ((if (An y b).lo≤last then 1 else 0)+SS y down r (i+1) (if i<down then max last (An y b).lo else last)) ((if (An y b).hi≤last then 1 else 0)+SS y down r (i+1) (if i<down then max last (An y b).hi else last))
theorem J4 (b t last:Int) (f:AM):(CT b t last f).many=(if t≤last then 1 else 0)+f.many:=by
  unfold CT
  simp only
  split <;> omega
theorem Qw (y:Ag) (down:Int):∀ (l:List Int)(i last:Int),(Hh y down l i last).many=SS y down l i last
  | [],_,_=>rfl
  | b::r,i,last=>by
    have h1:=Qw y down r (i+1) (if i<down then max last (An y b).lo else last)
    have h2:=Qw y down r (i+1) (if i<down then max last (An y b).hi else last)
    rw [Hh,SS,← h1,← h2,← J4 b,← J4 b]
    by_cases h:(CT b (An y b).hi last (Hh y down r (i+1) (if i<down then max last (An y b).hi else last))).many>(CT b (An y b).lo last (Hh y down r (i+1) (if i<down then max last (An y b).lo else last))).many
    · rw [decide_eq_true h,cond_true]; omega
    · rw [decide_eq_false h,cond_false]; omega
theorem M7 (y:Ag) (down:Int):∀ (l:List Int)(i a b:Int),a≤b→SS y down l i a≤SS y down l i b
  | [],_,_,_,_=>Int.le_refl _
  | c::r,i,a,b,h=>by
    have h1:=M7 y down r (i+1) (if i<down then max a (An y c).lo else a) (if i<down then max b (An y c).lo else b) (by split <;> omega)
    have h2:=M7 y down r (i+1) (if i<down then max a (An y c).hi else a) (if i<down then max b (An y c).hi else b) (by split <;> omega)
    rw [SS,SS]
    have e1:(if (An y c).lo≤a then(1:Int) else 0)≤(if (An y c).lo≤b then 1 else 0):=by split <;> split <;> omega
    have e2:(if (An y c).hi≤a then(1:Int) else 0)≤(if (An y c).hi≤b then 1 else 0):=by split <;> split <;> omega
    omega
theorem QS {y:Ag} (down:Int) (m:Int→Int):∀ (l:List Int)(i last:Int),(∀ b∈l,(An y b).lo≤m b∧m b≤(An y b).hi)→HM down m l i last≤SS y down l i last
  | [],_,_,_=>Int.le_refl _
  | b::r,i,last,h=>by
    have hb:=h b (by simp)
    have hi:=QS (y:=y) down m r (i+1) (if i<down then max last (m b) else last) fun c hc=>h c (by simp [hc])
    rw [HM,SS]
    by_cases hq:m b≤last
    · rw [if_pos hq,if_pos (show(An y b).lo≤last by omega)]
      have e1:(if i<down then max last (An y b).lo else last)=(if i<down then max last (m b) else last):=by split <;> omega
      rw [e1]
      omega
    · rw [if_neg hq]
      have h2:=M7 y down r (i+1) (if i<down then max last (m b) else last) (if i<down then max last (An y b).hi else last) (by split <;> omega)
      have e2:(0:Int)≤(if (An y b).hi≤last then 1 else 0):=by split <;> omega
      omega
theorem Hj (down:Int) {m m':Int→Int}:∀ (l:List Int)(i last:Int),(∀ b∈l,m b=m' b)→HM down m l i last=HM down m' l i last
  | [],_,_,_=>rfl
  | b::r,i,last,h=>by
    rw [HM,HM,h b (by simp),Hj down r _ _ fun c hc=>h c (by simp [hc])]
theorem HN (x:Ao) {b c:Int} (h0:0≤b) (h8:b<8) (g0:0≤c) (g8:c<8) (t:Int):BI (Se x b t) c=if c=b then t else BI x c:=by
  rcases x with⟨x0,x1,x2,x3,x4,x5,x6,x7⟩
  rcases Mt h0 h8 with h | h | h | h | h | h | h | h <;> subst h <;>
    rcases Mt g0 g8 with g | g | g | g | g | g | g | g <;> subst g <;> rfl
theorem KX (y:Ag) (down:Int):∀ (l:List Int)(i last:Int),l.Nodup→(∀ b∈l,0≤b∧b<8) →
    HM down (BI (Hh y down l i last).tm) l i last=(Hh y down l i last).many∧∀ b∈l,BI (Hh y down l i last).tm b=(An y b).lo∨BI (Hh y down l i last).tm b=(An y b).hi
  | [],_,_,_,_=>⟨rfl,by simp⟩
  | b::r,i,last,hn,h8=>by
    obtain⟨hnb,hnr⟩:=List.nodup_cons.1 hn
    have hb:=h8 b (by simp)
    have hr8:∀ c∈r,0≤c∧c<8:=fun c hc=>h8 c (by simp [hc])
    have way:∀ t:Int,(t=(An y b).lo∨t=(An y b).hi)→HM down (BI (CT b t last (Hh y down r (i+1) (if i<down then max last t else last))).tm) (b::r) i last=(CT b t last (Hh y down r (i+1) (if i<down then max last t else last))).many ∧
        ∀ c∈b::r,BI (CT b t last (Hh y down r (i+1) (if i<down then max last t else last))).tm c=(An y c).lo∨BI (CT b t last (Hh y down r (i+1) (if i<down then max last t else last))).tm c=(An y c).hi:=fun t ht=>by
      obtain⟨e1,e2⟩:=KX y down r (i+1) (if i<down then max last t else last) hnr hr8
      generalize Hh y down r (i+1) (if i<down then max last t else last)=F at e1 e2 ⊢
      have tmb:BI (CT b t last F).tm b=t:=by
        unfold CT
        rw [HN _ hb.1 hb.2 hb.1 hb.2,if_pos rfl]
      have tmr:∀ c∈r,BI (CT b t last F).tm c=BI F.tm c:=fun c hc=>by
        have hcb : ¬ c=b:=fun hq=>hnb (hq▸hc)
        unfold CT
        rw [HN _ hb.1 hb.2 (hr8 c hc).1 (hr8 c hc).2,if_neg hcb]
      refine⟨?_,fun c hc=>?_⟩
      · rw [HM,tmb,Hj down r _ _ tmr,e1,J4]
      · rcases List.mem_cons.1 hc with rfl | hc
        · rw [tmb]; exact ht
        · rw [tmr c hc]; exact e2 c hc
    rw [Hh]
    cases decide ((CT b (An y b).hi last (Hh y down r (i+1) (if i<down then max last (An y b).hi else last))).many>(CT b (An y b).lo last (Hh y down r (i+1) (if i<down then max last (An y b).lo else last))).many) with
    | true=>exact way _ (.inr rfl)
    | false=>exact way _ (.inl rfl)
def HO (m:Int→Int) (l:List Int):Int:=l.foldl (fun a b=>max a (m b)) (-1)
theorem Qx (m:Int→Int) (l:List Int) (b:Int):HO m (l++[b])=max (HO m l) (m b):=by simp [HO,List.foldl_append]
theorem Pq (m:Int→Int) (x:Int):∀ (l:List Int)(a:Int),x≤l.foldl (fun a b=>max a (m b)) a↔x≤a∨∃ b∈l,x≤m b
  | [],a=>by simp
  | b::r,a=>by
    rw [List.foldl_cons,Pq m x r]
    constructor
    · rintro(h | ⟨c,hc,h⟩)
      · rcases Int.le_total a (m b) with q | q
        · exact .inr ⟨b,by simp,by omega⟩
        · exact .inl (by omega)
      · exact .inr ⟨c,by simp [hc],h⟩
    · rintro(h | ⟨c,hc,h⟩)
      · exact .inl (by omega)
      · rcases List.mem_cons.1 hc with rfl | hc
        · exact .inl (by omega)
        · exact .inr ⟨c,hc,h⟩
theorem Pr {m:Int→Int} {x:Int} (hx:0≤x) (l:List Int):x≤HO m l↔∃ b∈l,x≤m b:=by
  unfold HO
  rw [Pq]
  constructor
  · rintro(h | h)
    · omega
    · exact h
  · exact .inr
theorem Tr (down:Int) (m:Int→Int):∀ (B:List Int)(i last:Int),down≤i→HM down m B i last=((B.filter fun c=>decide (m c≤last)).length:Int)
  | [],_,_,_=>rfl
  | c::r,i,last,h=>by
    rw [HM,if_neg (show ¬ i<down by omega),Tr down m r (i+1) last (by omega),List.filter_cons]
    by_cases hq:m c≤last
    · simp [hq]; omega
    · simp [hq]
theorem Ts (down:Int) (m:Int→Int) (hm:∀ b,0≤m b) (key:Int→Int) (B:List Int):∀ (A pre:List Int)(i:Int),(pre++A).Pairwise (fun a b=>key a<key b)→i+(A.length:Int)≤down →
    HM down m (A++B) i (HO m pre)=((A.filter fun c=>(pre++A).any fun b=>decide (m c≤m b) && decide (key b<key c)).length:Int)+HM down m B (i+(A.length:Int)) (HO m (pre++A))
  | [],pre,i,_,_=>by simp
  | c::A,pre,i,hp,hd=>by
    have hs:(pre++[c])++A=pre++c::A:=by simp
    have hi:=Ts down m hm key B A (pre++[c]) (i+1) (by rw [hs]; exact hp) (by simp at hd; omega)
    rw [Qx,hs] at hi
    rw [List.cons_append,HM,if_pos (show i<down by simp at hd; omega),hi,List.filter_cons]
    have hc:(m c≤HO m pre)↔((pre++c::A).any fun b=>decide (m c≤m b) && decide (key b<key c))=true:=by
      rw [Pr (hm c),List.any_eq_true]
      obtain⟨_,p2,p3⟩:=List.pairwise_append.1 hp
      obtain⟨p4,_⟩:=List.pairwise_cons.1 p2
      constructor
      · rintro⟨b,hb,h⟩
        exact⟨b,by simp [hb],by simp [h,p3 b hb c (by simp)]⟩
      · rintro⟨b,hb,h⟩
        simp only [Bool.and_eq_true,decide_eq_true_eq] at h
        rcases List.mem_append.1 hb with hb | hb
        · exact⟨b,hb,h.1⟩
        · rcases List.mem_cons.1 hb with rfl | hb
          · omega
          · have:=p4 b hb; omega
    by_cases hq:m c≤HO m pre
    · rw [if_pos hq,if_pos (hc.1 hq),List.length_cons]
      simp only [List.length_cons]
      rw [show i+1+(A.length:Int)=i+((A.length+1:Nat):Int) by omega]
      omega
    · rw [if_neg hq,if_neg (fun h=>hq (hc.2 h)),List.length_cons]
      rw [show i+1+(A.length:Int)=i+((A.length+1:Nat):Int) by omega]
      omega
def IW (y:Ag) (lanes:List Int) (f:Int→Bool) (m:Int→Int) (c:Int):Bool :=
  (Ai y.buses.length).any fun b=>!f b && (AA lanes b == AA lanes c && (decide (m c≤m b) && (f c || decide (AB y b<AB y c))))
theorem EM {l:List Int} {p q:Int→Bool} (h:∀ c∈l,p c=q c):(l.filter p).length=(l.filter q).length:=by
  rw [List.filter_congr h]
theorem R2 {y:Ag} (hd:Ey [] (y.buses.map (·.turn))=false) (lanes:List Int) (f:Int→Bool) (m:Int→Int) (hm:∀ b,0≤m b) (k:Int) :
    HM (Cb y lanes f k).down m (Cb y lanes f k).buses 0 (-1)=(((Cb y lanes f k).buses.filter (IW y lanes f m)).length:Int):=by
  have hs:((AX y f).filter (inl lanes k)).Pairwise fun a b=>AB y a<AB y b:=List.Pairwise.filter _ (DU hd f)
  have h1:=Ts (((AX y f).filter (inl lanes k)).length:Int) m hm (AB y) (((Ai y.buses.length).filter f).filter (inl lanes k)) ((AX y f).filter (inl lanes k)) [] 0 hs (by omega)
  rw [Tr _ m (((Ai y.buses.length).filter f).filter (inl lanes k)) _ _ (by omega)] at h1
  unfold Cb
  simp only
  rw [show HO m []=-1 from rfl] at h1
  rw [h1,List.filter_append,List.length_append]
  have memA:∀ c,c∈(AX y f).filter (inl lanes k)↔(c∈Ai y.buses.length∧f c=false)∧AA lanes c=k:=fun c=>by
    rw [List.mem_filter,BO]; simp [inl]
  have e1:(((AX y f).filter (inl lanes k)).filter fun c=>([]++(AX y f).filter (inl lanes k)).any fun b=>decide (m c≤m b) && decide (AB y b<AB y c)).length=(((AX y f).filter (inl lanes k)).filter (IW y lanes f m)).length:=EM fun c hc=>by
    have hc':=(memA c).1 hc
    rw [List.nil_append,Bool.eq_iff_iff,List.any_eq_true]
    unfold IW
    rw [List.any_eq_true]
    constructor
    · rintro⟨b,hb,h⟩
      have hb':=(memA b).1 hb
      exact⟨b,hb'.1.1,by simp only [Bool.and_eq_true,decide_eq_true_eq] at h; simp [hb'.1.2,hb'.2,hc'.2,h.1,h.2]⟩
    · rintro⟨b,hb,h⟩
      simp only [Bool.and_eq_true,decide_eq_true_eq,Bool.not_eq_true',beq_iff_eq,hc'.1.2,Bool.false_or] at h
      exact⟨b,(memA b).2 ⟨⟨hb,h.1⟩,by rw [h.2.1,hc'.2]⟩,by simp [h.2.2.1,h.2.2.2]⟩
  have e2:((((Ai y.buses.length).filter f).filter (inl lanes k)).filter fun c=>decide (m c≤HO m ([]++(AX y f).filter (inl lanes k)))).length=((((Ai y.buses.length).filter f).filter (inl lanes k)).filter (IW y lanes f m)).length:=EM fun c hc=>by
    rw [List.mem_filter,List.mem_filter] at hc
    have hl:AA lanes c=k:=by simpa [inl] using hc.2
    rw [List.nil_append,Bool.eq_iff_iff,decide_eq_true_eq,Pr (hm c)]
    unfold IW
    rw [List.any_eq_true]
    constructor
    · rintro⟨b,hb,h⟩
      have hb':=(memA b).1 hb
      exact⟨b,hb'.1.1,by simp [hb'.1.2,hb'.2,hl,h,hc.1.2]⟩
    · rintro⟨b,hb,h⟩
      simp only [Bool.and_eq_true,decide_eq_true_eq,Bool.not_eq_true',beq_iff_eq] at h
      exact⟨b,(memA b).2 ⟨⟨hb,h.1⟩,by rw [h.2.1,hl]⟩,h.2.2.1⟩
  rw [e1,e2]
  omega
theorem Ps (y:Ag) (lanes:List Int) (f:Int→Bool) (k:Int):(Cb y lanes f k).buses.Perm ((Ai y.buses.length).filter (inl lanes k)):=by
  unfold Cb
  simp only
  rw [← List.filter_append]
  refine List.Perm.filter _ ?_
  refine List.Perm.trans (List.Perm.append_right _ (En _ (JM y f))) ?_
  unfold JM
  refine List.Perm.trans List.perm_append_comm ?_
  exact List.filter_append_perm f _
def N0 (y:Ag) (lanes:List Int) (f:Int→Bool) (m:Int→Int) (ks:List Int):Int:=(ks.map fun k=>HM (Cb y lanes f k).down m (Cb y lanes f k).buses 0 (-1)).sum
theorem Pt {y:Ag} (hd:Ey [] (y.buses.map (·.turn))=false) (lanes:List Int) (f:Int→Bool) (m:Int→Int) (hm:∀ b,0≤m b):∀ r:Nat,
    N0 y lanes f m (Ai r)=((((Ai y.buses.length).filter (IW y lanes f m)).filter fun c=>decide (AA lanes c<(r:Int)) && decide (0≤AA lanes c)).length:Int)
  | 0=>by
    have:((Ai y.buses.length).filter (IW y lanes f m)).filter (fun c=>decide (AA lanes c<((0:Nat):Int)) && decide (0≤AA lanes c))=[]:=by
      rw [List.filter_eq_nil_iff]
      intro c _
      simp
    rw [this]
    rfl
  | r+1=>by
    have ih:=Pt hd lanes f m hm r
    rw [Cy]
    unfold N0 at ih ⊢
    rw [List.map_append,List.sum_append,ih,List.map_cons,List.map_nil,List.sum_cons,List.sum_nil,R2 hd lanes f m hm]
    rw [((Ps y lanes f (r:Int)).filter (IW y lanes f m)).length_eq]
    have hst:∀ s:List Int,(s.filter fun c=>decide (AA lanes c<((r+1:Nat):Int)) && decide (0≤AA lanes c)).length=(s.filter fun c=>decide (AA lanes c<(r:Int)) && decide (0≤AA lanes c)).length+(s.filter (inl lanes (r:Int))).length:=by
      intro s
      induction s with
      | nil=>rfl
      | cons c s ih =>
        rw [List.filter_cons,List.filter_cons,List.filter_cons]
        by_cases h1:AA lanes c=(r:Int)
        · rw [if_pos (by simp; omega),if_neg (by simp; omega),if_pos (by simp [inl,h1])]
          simp only [List.length_cons]
          omega
        · rw [if_neg (c:=inl lanes (r:Int) c=true) (by simp [inl,h1])]
          by_cases h2:AA lanes c<(r:Int)∧0≤AA lanes c
          · rw [if_pos (by simp; omega),if_pos (by simp; omega)]
            simp only [List.length_cons]
            omega
          · rw [if_neg (by simp; omega),if_neg (by simp; omega)]
            exact ih
    have hcm:((Ai y.buses.length).filter (IW y lanes f m)).filter (inl lanes (r:Int))=((Ai y.buses.length).filter (inl lanes (r:Int))).filter (IW y lanes f m):=by
      rw [List.filter_filter,List.filter_filter]
      exact List.filter_congr fun c _=>Bool.and_comm _ _
    rw [hst,hcm]
    omega
theorem Pu {y:Ag} {lanes:List Int} (hd:Ey [] (y.buses.map (·.turn))=false) (hin:∀ b∈Ai y.buses.length,DO (AA lanes b) 0 ((y.room.length:Int)-1)=true) (f:Int→Bool) (m:Int→Int) (hm:∀ b,0≤m b) :
    N0 y lanes f m (Ai y.room.length)=(((Ai y.buses.length).filter (IW y lanes f m)).length:Int):=by
  rw [Pt hd lanes f m hm,List.filter_eq_self.2]
  intro c hc
  have:=AI.1 (hin c (List.mem_filter.1 hc).1)
  simp
  omega
theorem Sf {y:Ag} (lanes:List Int) (f:Int→Bool) (m:Int→Int) (hr:∀ b∈Ai y.buses.length,(An y b).lo≤m b∧m b≤(An y b).hi):∀ ks:List Int,N0 y lanes f m ks≤J2 y (ks.map (Cb y lanes f))
  | []=>Int.le_refl _
  | k::ks=>by
    have ih:=Sf lanes f m hr ks
    unfold N0 J2 at ih ⊢
    simp only [List.map_cons,List.sum_cons]
    have h1:=QS (y:=y) (Cb y lanes f k).down m (Cb y lanes f k).buses 0 (-1) fun b hb=>hr b (DD.1 hb).1
    rw [← Qw] at h1
    have h2:(Hh y (Cb y lanes f k).down (Cb y lanes f k).buses 0 (-1)).many=(BX y (Cb y lanes f k)).many:=rfl
    omega
theorem Ka (f:AM):∀ (l:List Int)(w:Ao)(b:Int),(∀ c∈l,0≤c∧c<8)→0≤b→b<8→BI (M4 f l w) b=if b∈l then BI f.tm b else BI w b
  | [],w,b,_,_,_=>by simp [M4]
  | c::r,w,b,h,h0,h8=>by
    have hc:=h c (by simp)
    have ih:=Ka f r (Se w c (BI f.tm c)) b (fun d hd=>h d (by simp [hd])) h0 h8
    unfold M4 at ih ⊢
    rw [List.foldl_cons,ih,HN _ hc.1 hc.2 h0 h8]
    by_cases h1:b∈r
    · rw [if_pos h1,if_pos (by simp [h1])]
    · by_cases h2:b=c
      · subst h2
        rw [if_neg h1,if_pos rfl,if_pos (by simp)]
      · rw [if_neg h1,if_neg h2,if_neg (by simp [h1,h2])]
theorem L5 {y:Ag} (hy:y.buses.length≤8) (lanes:List Int) (f:Int→Bool) {b:Int} (hb:b∈Ai y.buses.length):∀ (ks:List Int)(w:Ao),
    BI (Gt y (ks.map (Cb y lanes f)) w) b=if AA lanes b∈ks then BI (BX y (Cb y lanes f (AA lanes b))).tm b else BI w b
  | [],w=>by simp [Gt]
  | k::ks,w=>by
    have hbr:=Ap.1 hb
    have ih:=L5 hy lanes f hb ks (M4 (BX y (Cb y lanes f k)) (Cb y lanes f k).buses w)
    unfold Gt at ih ⊢
    rw [List.map_cons,List.foldl_cons,ih,Ka _ _ _ _ (fun c hc=>by have:=Ap.1 (DD.1 hc).1; omega) (by omega) (by omega)]
    by_cases h1:AA lanes b∈ks
    · rw [if_pos h1,if_pos (by simp [h1])]
    · by_cases h2:AA lanes b=k
      · rw [if_neg h1,if_pos (DD.2 ⟨hb,by simp [inl,h2]⟩),if_pos (by simp [h2]),h2]
      · rw [if_neg h1,if_neg (fun hq=>h2 (by simpa [inl] using (DD.1 hq).2)),if_neg (by simp [h1,h2])]
theorem NK (y:Ag) (lanes:List Int) (f:Int→Bool) (k:Int):(Cb y lanes f k).buses.Nodup :=
  (Ps y lanes f k).nodup_iff.2 (List.Pairwise.filter _ (DC _))
def HP (y:Ag) (lanes:List Int) (f:Int→Bool) (b:Int):Int:=BI (Gu y lanes f) b
theorem QT {y:Ag} (hy:y.buses.length≤8) {lanes:List Int} (hin:∀ b∈Ai y.buses.length,DO (AA lanes b) 0 ((y.room.length:Int)-1)=true) (f:Int→Bool) {b:Int} (hb:b∈Ai y.buses.length) :
    HP y lanes f b=BI (BX y (Cb y lanes f (AA lanes b))).tm b:=by
  unfold HP Gu BT B8
  rw [L5 hy lanes f hb,if_pos]
  have:=AI.1 (hin b hb)
  exact Ap.2 ⟨this.1,by omega⟩
theorem FP {y:Ag} (hy:y.buses.length≤8) (hv:y.buses.all CS=true) {lanes:List Int} (hin:∀ b∈Ai y.buses.length,DO (AA lanes b) 0 ((y.room.length:Int)-1)=true) (f:Int→Bool) {b:Int} (hb:b∈Ai y.buses.length) :
    (An y b).lo≤HP y lanes f b∧HP y lanes f b≤(An y b).hi:=by
  rw [QT hy hin f hb]
  have hk:=CE hv (Bc.2 hb)
  have h:=(KX y (Cb y lanes f (AA lanes b)).down (Cb y lanes f (AA lanes b)).buses 0 (-1) (NK y lanes f _) (fun c hc=>by have:=Ap.1 (DD.1 hc).1; omega)).2 b (DD.2 ⟨hb,by simp [inl]⟩)
  unfold BX
  rcases h with h | h <;> rw [h] <;> omega
theorem KY {y:Ag} (lanes:List Int) (f:Int→Bool) {m m':Int→Int} (h:∀ b∈Ai y.buses.length,m b=m' b) (ks:List Int):N0 y lanes f m ks=N0 y lanes f m' ks:=by
  unfold N0
  congr 1
  exact List.map_congr_left fun k _=>Hj _ _ _ _ fun b hb=>h b (DD.1 hb).1
theorem Sg {y:Ag} (hy:y.buses.length≤8) {lanes:List Int} (hin:∀ b∈Ai y.buses.length,DO (AA lanes b) 0 ((y.room.length:Int)-1)=true) (f:Int→Bool):N0 y lanes f (HP y lanes f) (Ai y.room.length)=EL y lanes f:=by
  unfold N0 EL J2 BT B8
  rw [List.map_map]
  congr 1
  refine List.map_congr_left fun k _=>?_
  have h:=(KX y (Cb y lanes f k).down (Cb y lanes f k).buses 0 (-1) (NK y lanes f k) (fun c hc=>by have:=Ap.1 (DD.1 hc).1; omega)).1
  show _=(BX y (Cb y lanes f k)).many
  unfold BX
  rw [← h]
  refine Hj _ _ _ _ fun b hb=>?_
  have hb':=DD.1 hb
  rw [QT hy hin f hb'.1,show AA lanes b=k by simpa [inl] using hb'.2]
  rfl
theorem SZ {y:Ag} (hd:Ey [] (y.buses.map (·.turn))=false) {lanes:List Int} (hin:∀ b∈Ai y.buses.length,DO (AA lanes b) 0 ((y.room.length:Int)-1)=true) (f:Int→Bool) (m:Int→Int) (hm:∀ b,0≤m b)
    (hr:∀ b∈Ai y.buses.length,(An y b).lo≤m b∧m b≤(An y b).hi):(((Ai y.buses.length).filter (IW y lanes f m)).length:Int)≤EL y lanes f:=by
  rw [← Pu hd hin f m hm]
  exact Sf lanes f m hr _
end Go.Proofs.Ythcbemnflgjadaa
namespace Go.Proofs.Ythcbemnflgjadaa
open Go Go.RowKit
def NL (f:Int→Bool) (l:List Int):Int→Bool:=l.foldl LY f
theorem Pv:∀ (l:List Int)(f:Int→Bool)(x:Int),NL f l x=(f x || AE l x)
  | [],f,x=>by simp [NL,AE]
  | b::r,f,x=>by
    have ih:=Pv r (LY f b) x
    unfold NL at ih ⊢
    rw [List.foldl_cons,ih]
    unfold LY AE
    by_cases h:x=b
    · subst h; simp
    · rw [if_neg h,List.contains_cons,show(x == b)=false by simp [h],Bool.false_or]
theorem Pw (l:List Int):NL (fun _=>false) l=AE l:=funext fun x=>by rw [Pv,Bool.false_or]
theorem M8 (N:Nat):∀ (r m:Nat)(f:Int→Bool)(l:List Int),l≠[]→l.Pairwise (· < ·)→(∀ b∈l,((N-r:Nat):Int)≤b∧b<N)→l.length≤m→r≤N→NL f l∈HB N m r f
  | 0,m,f,[],hl,_,_,_,_=>absurd rfl hl
  | 0,m,f,b::l,_,_,hm,_,_=>by have:=hm b (by simp); omega
  | r+1,m,f,[],hl,_,_,_,_=>absurd rfl hl
  | r+1,0,f,b::l,_,_,_,h,_=>by simp at h
  | r+1,m+1,f,b::l,_,hp,hm,hl,hr=>by
    rw [List.pairwise_cons] at hp
    have hb:=hm b (by simp)
    rw [HB,List.mem_append]
    by_cases h:b=((N-(r+1):Nat):Int)
    · left
      rw [← h]
      cases l with
      | nil=>exact List.mem_cons_self
      | cons c l' =>
        refine List.mem_cons_of_mem _ (M8 N r m (LY f b) (c::l') (by simp) hp.2 (fun d hd=>?_) (by simp at hl ⊢; omega) (by omega))
        have h1:=hp.1 d hd
        have h2:=hm d (by simp at hd ⊢; exact .inr hd)
        omega
    · right
      refine M8 N r (m+1) f (b::l) (by simp) (List.pairwise_cons.2 hp) (fun d hd=>?_) hl (by omega)
      rcases List.mem_cons.1 hd with rfl | hd
      · omega
      · have h1:=hp.1 d hd
        have h2:=hm d (by simp [hd])
        omega
theorem KZ (N:Nat):∀ (r m:Nat)(f g:Int→Bool),g∈HB N m r f→r≤N→∃ l,g=NL f l∧l.Pairwise (· < ·)∧(∀ b∈l,((N-r:Nat):Int)≤b∧b<N)∧l.length≤m
  | 0,m,f,g,h,_=>by cases m <;> simp [HB] at h
  | r+1,0,f,g,h,_=>by simp [HB] at h
  | r+1,m+1,f,g,h,hr=>by
    rw [HB,List.mem_append] at h
    rcases h with h | h
    · rcases List.mem_cons.1 h with rfl | h
      · exact⟨[((N-(r+1):Nat):Int)],rfl,List.pairwise_singleton _ _,fun b hb=>by simp at hb; subst hb; omega,by simp⟩
      · obtain⟨l,e,h1,h2,h3⟩:=KZ N r m _ g h (by omega)
        refine⟨((N-(r+1):Nat):Int)::l,e,List.pairwise_cons.2 ⟨fun b hb=>?_,h1⟩,fun b hb=>?_,by simp; omega⟩
        · have:=h2 b hb; omega
        · rcases List.mem_cons.1 hb with rfl | hb
          · omega
          · have:=h2 b hb; omega
    · obtain⟨l,e,h1,h2,h3⟩:=KZ N r (m+1) f g h (by omega)
      exact⟨l,e,h1,fun b hb=>by have:=h2 b hb; omega,h3⟩
theorem Qy {y:Ag} {l:List Int} (h:Ez y l=true):AE l∈Bk y:=by
  obtain⟨h1,h2,h3⟩:=FK h
  unfold Bk
  by_cases hl:l=[]
  · subst hl
    rw [show AE []=fun _=>false from funext fun x=>by simp [AE]]
    exact List.mem_cons_self
  · rw [← Pw]
    refine List.mem_cons_of_mem _ (M8 _ _ _ _ l hl h1 (fun b hb=>?_) (by omega) (Nat.le_refl _))
    have:=Ap.1 (h2 b hb)
    omega
theorem Px {y:Ag} (hb:DO y.broken 0 2=true) {f:Int→Bool} (h:f∈Bk y):∃ l,f=AE l∧Ez y l=true:=by
  have hb':=AI.1 hb
  unfold Bk at h
  rcases List.mem_cons.1 h with rfl | h
  · exact⟨[],funext fun x=>by simp [AE],JT List.Pairwise.nil (by simp) (by simpa using hb'.1)⟩
  · obtain⟨l,e,h1,h2,h3⟩:=KZ _ _ _ _ _ h (Nat.le_refl _)
    refine⟨l,by rw [e,Pw],JT h1 (fun b hb=>?_) (by omega)⟩
    have:=h2 b hb
    rw [Ap]
    omega
theorem IG {R:Int→Int→Prop} {l:List Int} (hp:l.Pairwise R) {a b:Int} (ha:a∈l) (hb:b∈l) (h:BW l a<BW l b):R a b:=by
  unfold BW at h
  simp only [List.contains_iff_mem,ha,hb,if_true] at h
  have q1:=List.idxOf_lt_length_iff.2 ha
  have q2:=List.idxOf_lt_length_iff.2 hb
  have:=List.pairwise_iff_getElem.1 hp (l.idxOf a) (l.idxOf b) q1 q2 (by omega)
  rwa [List.getElem_idxOf q1,List.getElem_idxOf q2] at this
theorem NM {y:Ag} {order:List Int} (h:Fc y order=true) {a b:Int} (ha:a∈Ai y.buses.length) (hb:b∈Ai y.buses.length) (hp:BW order a<BW order b):(An y a).lo≤(An y b).hi:=by
  have hO:=Jx h
  unfold Fc at h
  rw [Bool.and_eq_true] at h
  exact IG (Jz y order [] h.2).1 ((hO.mem a).2 ha) ((hO.mem b).2 hb) hp
theorem QU {y:Ag} {order:List Int} (hO:Mk y order) (hp:order.Pairwise fun a b=>(An y a).lo≤(An y b).hi):Fc y order=true:=by
  unfold Fc
  rw [decide_eq_true hO.len,Bool.true_and]
  exact Pj y order [] (by rw [List.nil_append]; exact hO.nd) (fun b hb=>(hO.mem b).1 hb) (by rw [List.nil_append]; exact hp)
def Kb (y:Ag) (order:List Int) (c:Int):Int:=ND y ((Ai y.buses.length).filter fun b=>decide (BW order b≤BW order c))
theorem Kc {y:Ag} {l:List Int} {x:Int} (hx:0<x):x≤ND y l↔∃ k∈l,x≤(An y k).lo:=by
  have h:=RW y (x-1) (by omega) l
  constructor
  · intro h1
    rw [decide_eq_true (show x-1<ND y l by omega)] at h
    obtain⟨k,hk,h2⟩:=List.any_eq_true.1 h.symm
    exact⟨k,hk,by have:=of_decide_eq_true h2; omega⟩
  · rintro⟨k,hk,h1⟩
    have:decide (x-1<ND y l)=true:=by
      rw [h,List.any_eq_true]
      exact⟨k,hk,decide_eq_true (by omega)⟩
    have:=of_decide_eq_true this
    omega
theorem IH (y:Ag):∀ l:List Int,∀ a,a≤l.foldl (fun m b=>max m (An y b).lo) a
  | [],a=>Int.le_refl _
  | b::r,a=>by
    have:=IH y r (max a (An y b).lo)
    rw [List.foldl_cons]
    omega
theorem Qz {y:Ag} (hv:y.buses.all CS=true) {order:List Int} (h:Fc y order=true) {c:Int} (hc:c∈Ai y.buses.length):(An y c).lo≤Kb y order c∧Kb y order c≤(An y c).hi:=by
  have hk:=CE hv (Bc.2 hc)
  have h0:0≤Kb y order c:=IH y _ 0
  constructor
  · by_cases hq:0<(An y c).lo
    · exact(Kc hq).2 ⟨c,List.mem_filter.2 ⟨hc,by simp⟩,Int.le_refl _⟩
    · omega
  · by_cases hq:(An y c).hi<Kb y order c
    · obtain⟨k,hk',h1⟩:=(Kc (show 0<(An y c).hi+1 by omega)).1 (show(An y c).hi+1≤Kb y order c by omega)
      rw [List.mem_filter,decide_eq_true_eq] at hk'
      have hO:=Jx h
      by_cases he:BW order k=BW order c
      · have:=JQ ((hO.mem k).2 hk'.1) ((hO.mem c).2 hc) he
        subst this
        omega
      · have:=NM h hk'.1 hc (by omega)
        omega
    · omega
theorem R3 {y:Ag} {order:List Int} {c b:Int} (h:BW order c≤BW order b):Kb y order c≤Kb y order b:=by
  have h0:0≤Kb y order b:=IH y _ 0
  by_cases hq:0<Kb y order c
  · obtain⟨k,hk,h1⟩:=(Kc hq).1 (Int.le_refl (Kb y order c))
    rw [List.mem_filter,decide_eq_true_eq] at hk
    exact(Kc hq).2 ⟨k,List.mem_filter.2 ⟨hk.1,decide_eq_true (by omega)⟩,h1⟩
  · omega
theorem LZ {l:List Int} {p q:Int→Bool} (h:∀ c∈l,p c=true→q c=true):(l.filter p).length≤(l.filter q).length:=by
  rw [← List.countP_eq_length_filter,← List.countP_eq_length_filter]
  exact List.countP_mono_left h
theorem Sh {y:Ag} (hf:AN y=0) {lanes:List Int} (hl:AW y lanes=true) {order broken:List Int} (ho:Fc y order=true) (hb:Ez y broken=true):((Ci y lanes order broken).length:Int)≤AD y lanes:=by
  obtain⟨v1,v0,v2,v3,v4,v5,v6⟩:=BE hf
  obtain⟨l1,l2⟩:=FM hl
  have h1:=SZ v6 l2 (AE broken) (Kb y order) (fun b=>IH y _ 0) fun b hb=>Qz v5 ho hb
  have h2:=(HL y lanes (Bk y) (-1,FN,A8 fun _=>false)).2 _ (Qy hb)
  have h3:(Ci y lanes order broken).length≤((Ai y.buses.length).filter (IW y lanes (AE broken) (Kb y order))).length:=by
    have e:Ci y lanes order broken=(Ai y.buses.length).filter (AE (Eo y lanes order broken).flatten):=rfl
    rw [e]
    refine LZ fun c hc h=>?_
    have hm:c∈Ci y lanes order broken:=by rw [e,List.mem_filter]; exact⟨hc,h⟩
    obtain⟨_,b,d1,d2,d3,d4⟩:=(FJ v6 lanes order broken c).1 hm
    unfold QQ at d3
    rw [Bool.and_eq_true,beq_iff_eq,decide_eq_true_eq] at d3
    unfold IW
    rw [List.any_eq_true]
    refine⟨b,d1,?_⟩
    have hmn:Kb y order c≤Kb y order b:=R3 (by omega)
    rw [d2,d3.1,decide_eq_true hmn]
    cases hq:AE broken c with
    | true=>simp
    | false=>simp [d4 hq]
  unfold AD FO
  omega
theorem L6 (y:Ag) (lanes:List Int) (f:Int→Bool):0≤EL y lanes f:=by
  unfold EL J2
  have:∀ cs:List Av,0≤(cs.map fun c=>(BX y c).many).sum:=by
    intro cs
    induction cs with
    | nil=>simp
    | cons c cs ih =>
      have:=(EK y c.down c.buses 0 (-1)).1
      rw [List.map_cons,List.sum_cons]
      unfold BX at ih ⊢
      omega
  exact this _
theorem NN (y:Ag) (lanes:List Int):∃ f∈Bk y,FO y lanes=(EL y lanes f,Gu y lanes f,A8 f):=by
  rcases KW y lanes (Bk y) (-1,FN,A8 fun _=>false) with h | ⟨f,hf,h⟩
  · exfalso
    have h1:=(HL y lanes (Bk y) (-1,FN,A8 fun _=>false)).2 (fun _=>false) List.mem_cons_self
    rw [h] at h1
    have:=L6 y lanes fun _=>false
    simp only at h1
    omega
  · exact⟨f,hf,h⟩
def HQ (y:Ag) (f:Int→Bool) (b:Int):Int:=if f b then 2001 else AB y b
def M9 (y:Ag) (lanes:List Int) (f:Int→Bool) (b:Int):Int:=100000*HP y lanes f b+(8*(2001-HQ y f b)+b)
def G7 (y:Ag) (lanes:List Int) (f:Int→Bool):List Int:=EH (DP (M9 y lanes f)) (Ai y.buses.length)
def GH (y:Ag) (f:Int→Bool):List Int:=(Ai y.buses.length).filter f
theorem CX {y:Ag} (hv:y.buses.all CS=true) (f:Int→Bool) {b:Int} (hb:b∈Ai y.buses.length):0≤HQ y f b∧HQ y f b≤2001:=by
  have hk:=CE hv (Bc.2 hb)
  unfold HQ AB
  split <;> omega
theorem NO (y:Ag) (lanes:List Int) (f:Int→Bool):Mk y (G7 y lanes f):=by
  have hp:=En (DP (M9 y lanes f)) (Ai y.buses.length)
  exact⟨hp.nodup_iff.2 (DC _),by unfold G7; rw [D0,B3],fun b=>hp.mem_iff⟩
theorem Py {y:Ag} (hy:y.buses.length≤8) (hv:y.buses.all CS=true) {lanes:List Int} (hin:∀ b∈Ai y.buses.length,DO (AA lanes b) 0 ((y.room.length:Int)-1)=true) (f:Int→Bool):Fc y (G7 y lanes f)=true:=by
  have hO:=NO y lanes f
  refine QU hO (List.Pairwise.imp_of_mem (fun {a b} ha hb h=>?_) (Hg (M9 y lanes f) (Ai y.buses.length)))
  have ha':=(hO.mem a).1 ha
  have hb':=(hO.mem b).1 hb
  have h1:=FP hy hv hin f ha'
  have h2:=FP hy hv hin f hb'
  have h3:=CX hv f ha'
  have h4:=CX hv f hb'
  have h5:=Ap.1 ha'
  have h6:=Ap.1 hb'
  unfold M9 at h
  omega
theorem MA {key:Int→Int} {l:List Int} (hs:l.Pairwise fun a b=>key a≤key b) {a b:Int} (ha:a∈l) (hb:b∈l):(key a<key b→BW l a<BW l b)∧(BW l a<BW l b→key a≤key b):=by
  refine⟨fun h=>?_,fun h=>IG hs ha hb h⟩
  by_cases hq:BW l a<BW l b
  · exact hq
  · by_cases he:BW l a=BW l b
    · have:=JQ ha hb he
      subst this
      omega
    · have:=IG hs hb ha (show BW l b<BW l a by omega)
      omega
theorem Kd {y:Ag} {l:List Int} (h:Ez y l=true) (x:Int):AE (GH y (AE l)) x=AE l x:=by
  obtain⟨_,h2,_⟩:=FK h
  rw [Bool.eq_iff_iff,FL,FL]
  unfold GH
  rw [List.mem_filter,FL]
  exact⟨fun h=>h.2,fun h=>⟨h2 x h,h⟩⟩
theorem IZ:∀ n,(Ai n).Pairwise (· < ·)
  | 0=>List.Pairwise.nil
  | n+1=>by
    rw [Cy,List.pairwise_append]
    refine⟨IZ n,List.pairwise_singleton _ _,fun a ha b hb=>?_⟩
    have:=Ap.1 ha
    simp at hb
    omega
theorem Si {y:Ag} {l:List Int} (h:Ez y l=true):Ez y (GH y (AE l))=true:=by
  obtain⟨h1,h2,h3⟩:=FK h
  refine JT (List.Pairwise.filter _ (IZ _)) (fun b hb=>(List.mem_filter.1 hb).1) ?_
  have hp:(GH y (AE l)).Perm l:=(List.perm_ext_iff_of_nodup (List.Pairwise.filter _ (DC _)) (h1.imp fun h=>Int.ne_of_lt h)).2 fun x=>by
    have e:=Kd h x
    unfold GH at e
    rw [← FL,e,FL]
  rw [show(GH y (AE l)).length=l.length from hp.length_eq]
  exact h3
theorem Pz {y:Ag} (hf:AN y=0) {lanes:List Int} (hl:AW y lanes=true) {l:List Int} (hb:Ez y l=true) :
    ((Ci y lanes (G7 y lanes (AE l)) (GH y (AE l))).length:Int)=EL y lanes (AE l):=by
  obtain⟨v1,v0,v2,v3,v4,v5,v6⟩:=BE hf
  obtain⟨l1,l2⟩:=FM hl
  have hO:=NO y lanes (AE l)
  have hr:∀ b∈Ai y.buses.length,(An y b).lo≤HP y lanes (AE l) b∧HP y lanes (AE l) b≤(An y b).hi:=fun b hb=>FP v2 v5 l2 _ hb
  have hm0:∀ b,0≤(fun b=>max 0 (HP y lanes (AE l) b)) b:=fun b=>by simp only; omega
  have hcg:=KY (y:=y) lanes (AE l) (m:=fun b=>max 0 (HP y lanes (AE l) b)) (m':=HP y lanes (AE l)) (fun b hb=>by
    have h1:=hr b hb
    have h2:=CE v5 (Bc.2 hb)
    omega) (Ai y.room.length)
  rw [← Sg v2 l2,← hcg,Pu v6 l2 _ _ hm0]
  congr 1
  have e:Ci y lanes (G7 y lanes (AE l)) (GH y (AE l))=(Ai y.buses.length).filter (AE (Eo y lanes (G7 y lanes (AE l)) (GH y (AE l))).flatten):=rfl
  rw [e]
  refine EM fun c hc=>?_
  have hm:=FJ v6 lanes (G7 y lanes (AE l)) (GH y (AE l)) c
  rw [e,List.mem_filter] at hm
  rw [Bool.eq_iff_iff]
  constructor
  · intro h
    obtain⟨_,b,d1,d2,d3,d4⟩:=hm.1 ⟨hc,h⟩
    rw [Kd hb] at d2 d4
    unfold QQ at d3
    rw [Bool.and_eq_true,beq_iff_eq,decide_eq_true_eq] at d3
    have hk:=(MA (Hg (M9 y lanes (AE l)) (Ai y.buses.length)) ((hO.mem c).2 hc) ((hO.mem b).2 d1)).2 d3.2
    have t1:=CX v5 (AE l) hc
    have t2:=CX v5 (AE l) d1
    have r1:=Ap.1 hc
    have r2:=Ap.1 d1
    unfold M9 at hk
    unfold IW
    rw [List.any_eq_true]
    refine⟨b,d1,?_⟩
    have hmn:max 0 (HP y lanes (AE l) c)≤max 0 (HP y lanes (AE l) b):=by omega
    rw [d2,d3.1,decide_eq_true hmn]
    cases hq:AE l c with
    | true=>simp
    | false=>simp [d4 hq]
  · intro h
    refine(hm.2 ⟨hc,?_⟩).2
    unfold IW at h
    obtain⟨b,d1,d⟩:=List.any_eq_true.1 h
    simp only [Bool.and_eq_true,Bool.not_eq_true',beq_iff_eq,decide_eq_true_eq,Bool.or_eq_true] at d
    obtain⟨d2,d3,d4,d5⟩:=d
    have t1:=CX v5 (AE l) hc
    have t2:=CX v5 (AE l) d1
    have r1:=Ap.1 hc
    have r2:=Ap.1 d1
    have m1:=hr c hc
    have m2:=hr b d1
    have k1:=CE v5 (Bc.2 hc)
    have k2:=CE v5 (Bc.2 d1)
    refine⟨b,d1,by rw [Kd hb]; exact d2,?_,fun hq=>?_⟩
    · unfold QQ
      rw [Bool.and_eq_true,beq_iff_eq,decide_eq_true_eq]
      refine⟨d3.symm,(MA (Hg (M9 y lanes (AE l)) (Ai y.buses.length)) ((hO.mem c).2 hc) ((hO.mem b).2 d1)).1 ?_⟩
      have:HQ y (AE l) b<HQ y (AE l) c:=by
        unfold HQ
        rw [d2]
        rcases d5 with d5 | d5
        · rw [d5]
          unfold AB
          simp
          omega
        · unfold AB at d5 ⊢
          cases AE l c <;> simp <;> omega
      unfold M9
      omega
    · rw [Kd hb] at hq
      rcases d5 with d5 | d5
      · rw [hq] at d5; cases d5
      · exact d5
end Go.Proofs.Ythcbemnflgjadaa
namespace Go.Proofs.Ythcbemnflgjadaa
open Go Go.RowKit
def MB (r:Nat) (g:Int→Int):Int:=((Ai r).map g).sum
theorem EN (r:Nat) (g:Int→Int):MB (r+1) g=MB r g+g (r:Int):=by
  unfold MB
  rw [Cy,List.map_append,List.sum_append]
  simp
theorem P0 (g h:Int→Int):∀ r,MB r (fun k=>g k+h k)=MB r g+MB r h
  | 0=>rfl
  | r+1=>by rw [EN,EN,EN,P0 g h r]; omega
theorem P1 (b:Int) (h0:0≤b):∀ r:Nat,MB r (fun k=>if b=k then 1 else 0)=if b<(r:Int) then 1 else 0
  | 0=>by rw [if_neg (by omega)]; rfl
  | r+1=>by
    rw [EN,P1 b h0 r]
    by_cases h1:b=(r:Int)
    · rw [if_neg (by omega),if_pos h1,if_pos (by omega)]; omega
    · by_cases h2:b<(r:Int)
      · rw [if_pos h2,if_neg h1,if_pos (by omega)]; omega
      · rw [if_neg h2,if_neg h1,if_neg (by omega)]; omega
theorem QV {g h:Int→Int}:∀ r:Nat,(∀ k∈Ai r,g k≤h k)→MB r g≤MB r h
  | 0,_=>Int.le_refl _
  | r+1,H=>by
    have h1:=QV r fun k hk=>H k (by rw [Ap] at hk ⊢; omega)
    have h2:=H (r:Int) (by rw [Ap]; omega)
    rw [EN,EN]
    omega
theorem La (r:Nat):∀ l:List Int,(∀ b∈l,b∈Ai r)→MB r (fun k=>(l.count k:Int))=(l.length:Int)
  | [],_=>by
    have:∀ m,MB m (fun k=>(([]:List Int).count k:Int))=0:=fun m=>by
      induction m with
      | zero=>rfl
      | succ m ih=>rw [EN,ih]; rfl
    exact this r
  | b::l,h=>by
    have hb:=Ap.1 (h b (by simp))
    have e:(fun k:Int=>((b::l).count k:Int))=fun k=>(l.count k:Int)+(if b=k then 1 else 0):=funext fun k=>by
      rw [List.count_cons]
      by_cases hk:b=k
      · rw [if_pos hk,if_pos (by simp [hk])]; omega
      · rw [if_neg hk,if_neg (by simp [hk])]; omega
    rw [e,P0,La r l fun c hc=>h c (by simp [hc]),P1 b hb.1,if_pos hb.2,List.length_cons]
    omega
theorem Ke (room:List Int):∀ (l pre:List Int),Cs room pre l=true→∀ k,(pre.count k:Int)≤A7 room k→((pre++l).count k:Int)≤A7 room k
  | [],pre,_,k,h=>by simpa using h
  | b::r,pre,hR,k,h=>by
    unfold Cs at hR
    simp only [Bool.and_eq_true,decide_eq_true_eq] at hR
    have:=Ke room r (pre++[b]) hR.2.2 k (by
      rw [Eg]
      by_cases hk:k=b
      · rw [if_pos hk,hk]; omega
      · rw [if_neg hk]; omega)
    simpa using this
theorem R4 {y:Ag} (hr:(y.room.all fun r=>DO r 0 8)=true) {acc:List Int} (hl:acc.length<y.buses.length) (hm:∀ b∈acc,b∈Ai y.room.length) (hf:∀ j∈Ai y.room.length,A7 y.room j≤(acc.count j:Int)) (l:List Int):AW y l=false:=by
  cases hq:AW y l with
  | false=>rfl
  | true =>
    exfalso
    unfold AW at hq
    simp only [Bool.and_eq_true,decide_eq_true_eq] at hq
    have h1:∀ b∈l,b∈Ai y.room.length:=fun b hb=>by
      have:=AI.1 (IF _ _ _ hq.2 b hb)
      rw [Ap]; omega
    have h2:=La y.room.length l h1
    have h3:=La y.room.length acc hm
    have h4:=QV (g:=fun k=>(l.count k:Int)) (h:=fun k=>(acc.count k:Int)) y.room.length fun k hk=>by
      have hk':=Ap.1 hk
      have h5:=Ke _ _ _ hq.2 k (by have:=(EI hr (show DO k 0 ((y.room.length:Int)-1)=true by rw [AI]; omega)).1; simpa using this)
      have h6:=hf k hk
      rw [List.nil_append] at h5
      omega
    omega
theorem HR (y:Ag) (x14:List Int) (g:Int→Int) (hr:0<y.room.length) (hm:y.room.length≤1000) (t:Int) (ht:0≤t):∀ (n k:Nat)(l:Int),y.room.length<n+k→k≤y.room.length→l=(t+k) % (y.room.length:Int)→(∀ i:Nat,i<k→A7 y.room ((t+i) % (y.room.length:Int))≤g ((t+i) % (y.room.length:Int))) →
    ∃ o,CK n y x14 (CO y.room.length g) (k:Int) l=some o∧0≤o∧o<(y.room.length:Int)∧(g o<A7 y.room o∨∀ j∈Ai y.room.length,A7 y.room j≤g j)
  | 0,k,l,h,hk,_,_=>by omega
  | n+1,k,l,h,hk,he,hv=>by
    have hR:(0:Int)<(y.room.length:Int):=by omega
    have h0:0≤l:=by rw [he]; exact Int.emod_nonneg _ (by omega)
    have h1:l<(y.room.length:Int):=by rw [he]; exact Int.emod_lt_of_pos _ hR
    have hbt:DO l 0 ((y.room.length:Int)-1)=true:=by rw [AI]; omega
    have er:Bv y.room l=some (A7 y.room l):=by
      have:=Gs (g:=fun k=>y.room.getD k.toNat 0) hbt
      rwa [← GF y.room] at this
    rw [CK,BN]
    by_cases hx:k<y.room.length
    · simp only [hx,decide_true,cond_true,Gs hbt,er,Option.bind_some]
      by_cases hq:g l≥A7 y.room l
      · rw [decide_eq_true hq]
        simp only [cond_true,Pi (show((y.room.length:Nat):Int)≠0 by omega),Option.bind_some]
        have w1:IntKind.i64.wrap (l+1)=l+1:=HI (by omega) (by omega)
        rw [DT k (by omega),w1,Int.tmod_eq_emod_of_nonneg (by omega)]
        refine HR y x14 g hr hm t ht n (k+1) _ (by omega) (by omega) ?_ fun i hi=>?_
        · rw [he,Int.emod_add_emod]
          congr 1
          omega
        · by_cases hik:i=k
          · subst hik; rw [← he]; exact hq
          · exact hv i (by omega)
      · rw [decide_eq_false hq]
        exact⟨l,rfl,h0,h1,.inl (by omega)⟩
    · have hkR:k=y.room.length:=by omega
      refine⟨l,by simp [hx],h0,h1,.inr fun j hj=>?_⟩
      have hj':=Ap.1 hj
      have q0:0≤(j-t) % (y.room.length:Int):=Int.emod_nonneg _ (by omega)
      have q1:(j-t) % (y.room.length:Int)<(y.room.length:Int):=Int.emod_lt_of_pos _ hR
      have hv':=hv ((j-t) % (y.room.length:Int)).toNat (by omega)
      rw [show((((j-t) % (y.room.length:Int)).toNat:Nat):Int)=(j-t) % (y.room.length:Int) by omega,Int.add_emod_emod,show t+(j-t)=j by omega,Int.emod_eq_of_lt hj'.1 hj'.2] at hv'
      exact hv'
theorem HS {y:Ag} (hr0:0<y.room.length) (hr:(y.room.all fun r=>DO r 0 8)=true) (hm:y.room.length≤100) (hb:y.buses.length≤100) {words:List (IK .u16)} (hw:TR words) (x14:List Int):∀ (n i:Nat)(acc:List Int),400≤n+i→i≤y.buses.length→acc.length=i→Cs y.room [] acc=true →
    ∃ r,CL n y words x14 (CO y.room.length fun k=>(acc.count k:Int)) acc (i:Int)=some r∧((r=Ex.ret ([],false)∧∀ l,AW y l=false)∨∃ h l,r=Ex.go (h,l)∧l.length=y.buses.length∧Cs y.room [] l=true)
  | 0,i,acc,h,hi,_,_=>by omega
  | n+1,i,acc,h,hi,ha,hR=>by
    rw [CL,BN]
    by_cases hx:i<y.buses.length
    · have w1:IntKind.i64.wrap (5*(i:Int))=5*(i:Int):=HI (by omega) (by omega)
      have w2:IntKind.i64.wrap (5*(i:Int)+1)=5*(i:Int)+1:=HI (by omega) (by omega)
      simp only [hx,decide_true,cond_true]
      rw [w1,w2,SY n words hw _ (by omega),Option.bind_some,Pi (show((y.room.length:Nat):Int)≠0 by omega),Option.bind_some]
      have ht:=Eh (Sc hw (5*(i:Int)+1)).1 (show(0:Int)<(y.room.length:Int) by omega)
      obtain⟨o,e1,e2,e3,e5⟩:=HR y x14 (fun k=>(acc.count k:Int)) hr0 (by omega) _ ht.1 n 0 (Int.tmod (wd words (5*(i:Int)+1)) (y.room.length:Int)) (by omega) (by omega) (by rw [show((0:Nat):Int)=0 from rfl,Int.add_zero,Int.emod_eq_of_lt ht.1 ht.2]) (fun j hj=>absurd hj (by omega))
      rw [show((0:Nat):Int)=0 from rfl] at e1
      have hbt:DO o 0 ((y.room.length:Int)-1)=true:=by rw [AI]; omega
      have er:Bv y.room o=some (A7 y.room o):=by
        have:=Gs (g:=fun k=>y.room.getD k.toNat 0) hbt
        rwa [← GF y.room] at this
      rw [e1]
      simp only [Option.bind_some,Gs hbt,er]
      by_cases hq:(acc.count o:Int)<A7 y.room o
      · have hcl:acc.count o≤100:=Nat.le_trans List.count_le_length (by omega)
        rw [decide_eq_false (show ¬ (acc.count o:Int)≥A7 y.room o by omega),cond_false,JN hbt,Option.bind_some,FH _ _ (by simp; omega),Option.bind_some,DT i (by omega),HI (by omega) (by omega)]
        have e4:(CO y.room.length fun x=>if x=o then(acc.count o:Int)+1 else(acc.count x:Int))=CO y.room.length fun k=>((acc++[o]).count k:Int):=by
          congr 1
          funext x
          rw [Eg]
          by_cases hxe:x=o
          · rw [if_pos hxe,if_pos hxe,hxe]
          · rw [if_neg hxe,if_neg hxe]; omega
        rw [e4]
        refine HS hr0 hr hm hb hw x14 n (i+1) (acc++[o]) (by omega) (by omega) (by simp [ha]) ?_
        rw [HK,hR,hbt,List.nil_append,decide_eq_true hq]
        rfl
      · rw [decide_eq_true (show(acc.count o:Int)≥A7 y.room o by omega),cond_true]
        refine⟨_,rfl,.inl ⟨rfl,R4 hr (acc:=acc) (by omega) (fun b hb=>?_) (e5.resolve_left hq)⟩⟩
        have:=AI.1 (IF _ _ _ hR b hb)
        rw [Ap]; omega
    · have:i=y.buses.length:=by omega
      exact⟨Ex.go ((CO y.room.length fun k=>(acc.count k:Int)),acc),by simp [this],.inr ⟨_,acc,rfl,by omega,hR⟩⟩
theorem L7 (n:Nat) {y:Ag} (hr0:0<y.room.length) (hr:(y.room.all fun r=>DO r 0 8)=true) (hm:y.room.length≤100) (hb:y.buses.length≤100) {words:List (IK .u16)} (hw:TR words) (hn:400≤n) :
    ∃ l is,EP n y words=some (l,is)∧(is=true→AW y l=true∧l.length=y.buses.length)∧(is=false→l=[]∧∀ l',AW y l' = false):=by
  unfold EP
  rw [Uh _ _ (by omega),Option.bind_some]
  obtain⟨r,e1,e2⟩:=HS hr0 hr hm hb hw (List.replicate y.room.length 0) n 0 [] (by omega) (by omega) rfl rfl
  rw [show((0:Nat):Int)=0 from rfl,show(CO y.room.length fun k=>(([]:List Int).count k:Int))=List.replicate y.room.length 0 from(RY _).symm] at e1
  rw [e1]
  rcases e2 with⟨rfl,hno⟩ | ⟨h,l,rfl,h1,h2⟩
  · exact⟨[],false,rfl,by simp,fun _=>⟨rfl,hno⟩⟩
  · exact⟨l,true,rfl,fun _=>⟨by unfold AW; rw [decide_eq_true h1,h2]; rfl,h1⟩,by simp⟩
def J5 (room:List Int):Nat→List Int→List (List Int)
  | 0,pre=>[pre]
  | r+1,pre=>(Ai room.length).flatMap fun k=>if (pre.count k:Int)<A7 room k then J5 room r (pre++[k]) else []
theorem MC (room:List Int):∀ (r:Nat)(pre l:List Int),l∈J5 room r pre↔∃ s,l=pre++s∧s.length=r∧Cs room pre s=true
  | 0,pre,l=>by
    rw [J5,List.mem_singleton]
    constructor
    · rintro rfl; exact⟨[],by simp,rfl,rfl⟩
    · rintro⟨s,rfl,h,_⟩
      rw [List.eq_nil_of_length_eq_zero h,List.append_nil]
  | r+1,pre,l=>by
    rw [J5,List.mem_flatMap]
    constructor
    · rintro⟨k,hk,h⟩
      have hk':=Ap.1 hk
      by_cases hq:(pre.count k:Int)<A7 room k
      · rw [if_pos hq,MC room r] at h
        obtain⟨s,rfl,h1,h2⟩:=h
        refine⟨k::s,by simp,by simp [h1],?_⟩
        unfold Cs
        rw [decide_eq_true hq,h2,show DO k 0 ((room.length:Int)-1)=true by rw [AI]; omega]
        rfl
      · rw [if_neg hq] at h; simp at h
    · rintro⟨s,rfl,h1,h2⟩
      cases s with
      | nil=>simp at h1
      | cons k s =>
        unfold Cs at h2
        simp only [Bool.and_eq_true,decide_eq_true_eq] at h2
        obtain⟨h3,h4,h5⟩:=h2
        rw [AI] at h3
        refine⟨k,by rw [Ap]; omega,?_⟩
        rw [if_pos h4,MC room r]
        exact⟨s,by simp,by simpa using h1,h5⟩
def Fd (y:Ag):List (List Int):=J5 y.room y.buses.length []
theorem FA {y:Ag} {l:List Int}:l∈Fd y↔AW y l=true:=by
  unfold Fd AW
  rw [MC]
  simp only [List.nil_append,Bool.and_eq_true,decide_eq_true_eq]
  constructor
  · rintro⟨s,rfl,h⟩; exact h
  · intro h; exact⟨l,rfl,h⟩
def P2 (f:List Int→Int) (s:Option (List Int×Int)) (l:List Int):Option (List Int×Int) :=
  match s with
  | none=>some (l,f l)
  | some (b,m)=>if f l<m then some (l,f l) else some (b,m)
def Cv (f:List Int→Int) (L:List (List Int)) (s:Option (List Int×Int)):Option (List Int×Int):=L.foldl (P2 f) s
theorem Gv (f:List Int→Int):∀ (L:List (List Int))(b:List Int)(m:Int),m=f b→∃ b',Cv f L (some (b,m))=some (b',f b')∧(b' = b∨b'∈L)∧f b'≤m∧∀ l∈L,f b'≤f l
  | [],b,m,h=>⟨b,by unfold Cv; rw [← h]; rfl,.inl rfl,by omega,by simp⟩
  | l::L,b,m,h=>by
    unfold Cv
    rw [List.foldl_cons]
    unfold P2
    simp only
    by_cases hq:f l<m
    · rw [if_pos hq]
      obtain⟨b',e,h1,h2,h3⟩:=Gv f L l (f l) rfl
      refine⟨b',e,.inr ?_,by omega,fun c hc=>?_⟩
      · rcases h1 with rfl | h1 <;> simp [*]
      · rcases List.mem_cons.1 hc with rfl | hc
        · exact h2
        · exact h3 c hc
    · rw [if_neg hq]
      obtain⟨b',e,h1,h2,h3⟩:=Gv f L b m h
      refine⟨b',e,?_,h2,fun c hc=>?_⟩
      · rcases h1 with h1 | h1
        · exact .inl h1
        · exact .inr (by simp [h1])
      · rcases List.mem_cons.1 hc with rfl | hc
        · omega
        · exact h3 c hc
def DQ (y:Ag):Option (List Int×Int):=Cv (AD y) (Fd y) none
theorem L8 {y:Ag} (h:DQ y=none) (l:List Int):AW y l=false:=by
  unfold DQ at h
  cases hL:Fd y with
  | nil =>
    cases hq:AW y l with
    | false=>rfl
    | true=>rw [← FA,hL] at hq; simp at hq
  | cons c L =>
    rw [hL] at h
    obtain⟨b',e,_⟩:=Gv (AD y) L c (AD y c) rfl
    rw [show Cv (AD y) (c::L) none=Cv (AD y) L (some (c,AD y c)) from rfl,e] at h
    cases h
theorem Gw {y:Ag} {b:List Int} {m:Int} (h:DQ y=some (b,m)):AW y b=true∧m=AD y b∧∀ l,AW y l=true→m≤AD y l:=by
  unfold DQ at h
  cases hL:Fd y with
  | nil=>rw [hL] at h; cases h
  | cons c L =>
    rw [hL] at h
    obtain⟨b',e,h1,h2,h3⟩:=Gv (AD y) L c (AD y c) rfl
    rw [show Cv (AD y) (c::L) none=Cv (AD y) L (some (c,AD y c)) from rfl,e] at h
    cases h
    refine⟨?_,rfl,fun l hl=>?_⟩
    · rw [← FA,hL]
      rcases h1 with rfl | h1 <;> simp [*]
    · rw [← FA,hL] at hl
      rcases List.mem_cons.1 hl with rfl | hl
      · exact h2
      · exact h3 l hl
theorem Kf {f g:List Int→Int}:∀ (L:List (List Int))(s:Option (List Int×Int)),(∀ l∈L,f l=g l)→Cv f L s=Cv g L s
  | [],_,_=>rfl
  | l::L,s,h=>by
    unfold Cv
    rw [List.foldl_cons,List.foldl_cons]
    have:P2 f s l=P2 g s l:=by unfold P2; rw [h l (by simp)]
    rw [this]
    exact Kf L _ fun c hc=>h c (by simp [hc])
theorem MD {α:Type} (g:α→Int):∀ (bs:List α)(m:Int),m≤bs.foldl (fun m b=>max m (g b)) m∧(∀ b∈bs,g b≤bs.foldl (fun m b=>max m (g b)) m)∧(∀ k,m≤k→(∀ b∈bs,g b≤k)→bs.foldl (fun m b=>max m (g b)) m≤k)
  | [],m=>⟨Int.le_refl _,by simp,fun k h _=>h⟩
  | b::r,m=>by
    obtain⟨h1,h2,h3⟩:=MD g r (max m (g b))
    rw [List.foldl_cons]
    refine⟨by omega,fun c hc=>?_,fun k hk hb=>h3 k (by have:=hb b (by simp); omega) fun c hc=>hb c (by simp [hc])⟩
    rcases List.mem_cons.1 hc with rfl | hc
    · omega
    · exact h2 c hc
theorem HT {y:Ag} (hf:AN y=0) {lanes:List Int} (hl:AW y lanes=true):∃ l,Ez y l=true∧FO y lanes=(EL y lanes (AE l),Gu y lanes (AE l),A8 (AE l)) ∧
    Fc y (G7 y lanes (AE l))=true∧Ez y (GH y (AE l))=true∧((Ci y lanes (G7 y lanes (AE l)) (GH y (AE l))).length:Int)=AD y lanes:=by
  obtain⟨v1,v0,v2,v3,v4,v5,v6⟩:=BE hf
  obtain⟨l1,l2⟩:=FM hl
  obtain⟨f,h1,h2⟩:=NN y lanes
  obtain⟨l,rfl,h3⟩:=Px v3 h1
  refine⟨l,h3,h2,Py v2 v5 l2 _,Si h3,?_⟩
  rw [Pz hf hl h3]
  unfold AD
  rw [h2]
theorem OA {x y:Ag} (hn:x.buses.length=y.buses.length) (dx:Ey [] (x.buses.map (·.turn))=false) (dy:Ey [] (y.buses.map (·.turn))=false)
    (ht:∀ a∈Ai y.buses.length,∀ b∈Ai y.buses.length,(AB x a<AB x b↔AB y a<AB y b)) (lanes order broken:List Int):Ci x lanes order broken=Ci y lanes order broken:=by
  have ex:Ci x lanes order broken=(Ai x.buses.length).filter (AE (Eo x lanes order broken).flatten):=rfl
  have ey:Ci y lanes order broken=(Ai y.buses.length).filter (AE (Eo y lanes order broken).flatten):=rfl
  have key:∀ c,c∈Ci x lanes order broken↔c∈Ci y lanes order broken:=fun c=>by
    rw [FJ dx,FJ dy]
    unfold Qt
    rw [hn]
    constructor
    · rintro⟨hc,b,h1,h2,h3,h4⟩
      exact⟨hc,b,h1,h2,h3,fun hq=>(ht b h1 c hc).1 (h4 hq)⟩
    · rintro⟨hc,b,h1,h2,h3,h4⟩
      exact⟨hc,b,h1,h2,h3,fun hq=>(ht b h1 c hc).2 (h4 hq)⟩
  have h:∀ c∈Ai y.buses.length,AE (Eo x lanes order broken).flatten c=AE (Eo y lanes order broken).flatten c:=fun c hc=>by
    have hk:=key c
    rw [ex,ey,hn,List.mem_filter,List.mem_filter] at hk
    rw [Bool.eq_iff_iff]
    exact⟨fun h=>(hk.1 ⟨hc,h⟩).2,fun h=>(hk.2 ⟨hc,h⟩).2⟩
  rw [ex,ey,hn]
  exact List.filter_congr h
theorem HU {x y:Ag} (hx:AN x=0) (hy:AN y=0) (hn:x.buses.length=y.buses.length) (ht:∀ a∈Ai y.buses.length,∀ b∈Ai y.buses.length,(AB x a<AB x b↔AB y a<AB y b))
    (hp:∀ o,Fc x o=true→Fc y o=true) (hb:∀ b,Ez x b=true→Ez y b=true) {lanes:List Int} (lx:AW x lanes=true) (ly:AW y lanes=true):AD x lanes≤AD y lanes:=by
  obtain⟨_,_,_,_,_,_,dx⟩:=BE hx
  obtain⟨_,_,_,_,_,_,dy⟩:=BE hy
  obtain⟨l,_,_,h1,h2,h3⟩:=HT hx lx
  rw [OA hn dx dy ht] at h3
  have:=Sh hy ly (hp _ h1) (hb _ h2)
  omega
theorem J6 {x y:Ag} (hn:x.buses.length=y.buses.length) (h:∀ a∈Ai y.buses.length,∀ b∈Ai y.buses.length,(An x a).lo≤(An x b).hi→(An y a).lo≤(An y b).hi) {o:List Int} (ho:Fc x o=true):Fc y o=true:=by
  have hO:=Jx ho
  have hO':Mk y o:=⟨hO.nd,by rw [← hn]; exact hO.len,fun b=>by rw [← hn]; exact hO.mem b⟩
  unfold Fc at ho
  rw [Bool.and_eq_true] at ho
  exact QU hO' (List.Pairwise.imp_of_mem (fun {a b} ha hb hq=>h a ((hO'.mem a).1 ha) b ((hO'.mem b).1 hb) hq) (Jz x o [] ho.2).1)
theorem J7 {x y:Ag} (hn:x.buses.length=y.buses.length) (h:x.broken≤y.broken) {b:List Int} (hb:Ez x b=true):Ez y b=true:=by
  obtain⟨h1,h2,h3⟩:=FK hb
  exact JT h1 (fun c hc=>by rw [← hn]; exact h2 c hc) (by omega)
end Go.Proofs.Ythcbemnflgjadaa
namespace Go.Proofs.Ythcbemnflgjadaa
open Go Go.RowKit
theorem Sj (n:Nat) (l:List Int) (i:Nat) (h:i<l.length) (hl:l.length≤100):BM (n+1) l (i:Int)=bif (l[i] != 0) then some (Ex.ret l[i]) else BM n l ((i+1:Nat):Int):=by
  rw [BM,BN]
  simp only [h,decide_true,cond_true,DN _ _ h,Option.bind_some]
  rw [DT i (by omega)]
theorem TE (n:Nat) (l:List Int):BM (n+1) l (l.length:Int)=some (Ex.go ()):=by
  rw [BM,BN]
  simp
theorem TX (n:Nat) (a b c:Int):FT (n+4) [a,b,c]=some (if a≠0 then a else if b≠0 then b else c):=by
  unfold FT
  have h3:=TE n [a,b,c]
  have h2:=Sj (n+1) [a,b,c] 2 (by simp) (by simp)
  have h1:=Sj (n+2) [a,b,c] 1 (by simp) (by simp)
  have h0:=Sj (n+3) [a,b,c] 0 (by simp) (by simp)
  rw [show((([a,b,c]:List Int).length:Nat):Int)=((2+1:Nat):Int) from rfl] at h3
  rw [h3] at h2
  rw [h2] at h1
  rw [h1] at h0
  rw [show((0:Nat):Int)=0 from rfl] at h0
  rw [h0]
  simp only [List.getElem_cons_zero,List.getElem_cons_succ]
  by_cases ha:a=0
  · by_cases hb:b=0
    · by_cases hc:c=0
      · subst ha; subst hb; subst hc; rfl
      · have e:(c != 0)=true:=by simp [hc]
        rw [e]
        subst ha; subst hb
        rfl
    · have e:(b != 0)=true:=by simp [hb]
      rw [e]
      subst ha
      simp [hb,Ex.bind]
  · have e:(a != 0)=true:=by simp [ha]
    rw [e]
    simp [ha,Ex.bind]
theorem L9 (y:Ag) (P:Ao) (f:Int→Bool) (k:Int) (hy:y.buses.length≤8):∀ (n i:Nat),y.buses.length<n+i→i≤y.buses.length →
    C1 n y (P,A8 f,k) (Ai i) ((Ai i).filter f) (i:Int)=some (Ai y.buses.length,(Ai y.buses.length).filter f)
  | 0,i,h,hi=>by omega
  | n+1,i,h,hi=>by
    rw [C1,BN]
    by_cases hx:i<y.buses.length
    · have h0:(0:Int)≤(i:Int):=by omega
      have h8:(i:Int)<8:=by omega
      have hl:=List.length_filter_le f (Ai i)
      rw [B3] at hl
      have ih:=L9 y P f k hy n (i+1) (by omega) (by omega)
      rw [Cy,List.filter_append] at ih
      simp only [hx,decide_true,cond_true,Ms h0 h8,JL f h0 h8,Option.bind_some]
      rw [FH _ _ (by rw [B3]; simp; omega),Option.bind_some,DT i (by omega)]
      cases hf:f (i:Int) with
      | true =>
        rw [cond_true,FH _ _ (by simp; omega),Option.bind_some]
        rw [show([(i:Int)].filter f)=[(i:Int)] by simp [hf]] at ih
        exact ih
      | false =>
        rw [cond_false]
        rw [show([(i:Int)].filter f)=[] by simp [hf],List.append_nil] at ih
        exact ih
    · have:i=y.buses.length:=by omega
      subst this
      simp
theorem R5 (n:Nat) {y:Ag} (hy:y.buses.length≤8) (hv:y.buses.all CS=true) {lanes:List Int} (hin:∀ b∈Ai y.buses.length,DO (AA lanes b) 0 ((y.room.length:Int)-1)=true) (f:Int→Bool) {a b:Int} (ha:a∈Ai y.buses.length) (hb:b∈Ai y.buses.length) :
    ∃ d,Db (n+4) a b (Gu y lanes f) (fun y0=>B9 (n+4) y0 (A8 f) y)=some d∧decide (d<0)=DP (M9 y lanes f) a b:=by
  have ha':=Ap.1 ha
  have hb':=Ap.1 hb
  have a8:a<8:=by omega
  have b8:b<8:=by omega
  have t1:=CX hv f ha
  have t2:=CX hv f hb
  have m1:=FP hy hv hin f ha
  have m2:=FP hy hv hin f hb
  have k1:=CE hv (Bc.2 ha)
  have k2:=CE hv (Bc.2 hb)
  have late:∀ c∈Ai y.buses.length,B9 (n+4) c (A8 f) y=some (HQ y f c):=fun c hc=>by
    have hc':=Ap.1 hc
    have c8:c<8:=by omega
    unfold B9 HQ AB
    rw [Ms hc'.1 c8,Option.bind_some,JL f hc'.1 c8,Option.bind_some]
    cases f c with
    | true=>rfl
    | false=>rw [cond_false,EV y (Bc.2 hc)]; rfl
  unfold Db
  rw [Ms ha'.1 a8,Option.bind_some,J1 _ ha'.1 a8,Option.bind_some,Ms hb'.1 b8,Option.bind_some,J1 _ hb'.1 b8,Option.bind_some]
  rw [show BI (Gu y lanes f) a=HP y lanes f a from rfl,show BI (Gu y lanes f) b=HP y lanes f b from rfl]
  simp only [late a ha,late b hb,Option.bind_some]
  rw [HI (x:=HP y lanes f a-HP y lanes f b) (by omega) (by omega),HI (x:=HQ y f b-HQ y f a) (by omega) (by omega),HI (x:=a-b) (by omega) (by omega),TX]
  refine⟨_,rfl,?_⟩
  unfold DP M9
  rw [decide_eq_decide]
  split
  · omega
  · split <;> omega
theorem Kg (n:Nat) {y:Ag} (hf:AN y=0) {lanes:List Int} (hl:AW y lanes=true) (hn:500≤n) :
    ∃ o b,Dc n y lanes=some (o,b,AD y lanes,0)∧Fc y o=true∧Ez y b=true∧((Ci y lanes o b).length:Int)=AD y lanes:=by
  obtain⟨v1,v0,v2,v3,v4,v5,v6⟩:=BE hf
  obtain⟨l1,l2⟩:=FM hl
  obtain⟨l,q1,q2,q3,q4,q5⟩:=HT hf hl
  refine⟨_,_,?_,q3,q4,q5⟩
  obtain⟨n,rfl⟩:∃ m,n=m+4:=⟨n-4,by omega⟩
  unfold Dc
  rw [Pb (n+4) y (by omega) (by omega) (by omega) (by omega),Option.bind_some,hf,RZ (n+4) y v4 (by omega) lanes (by omega) (by omega),Option.bind_some,hl,Qv (n+4) hf hl hn,Option.bind_some]
  simp only [bne_self_eq_false,cond_false,Bool.not_true]
  have h1:=L9 y (FO y lanes).2.1 (AE l) (FO y lanes).1 v2 (n+4) 0 (by omega) (by omega)
  rw [show Ai 0=[] from rfl,show((0:Nat):Int)=0 from rfl] at h1
  have e1:(FO y lanes).2.2=A8 (AE l):=by rw [q2]
  have e2:(FO y lanes).2.1=Gu y lanes (AE l):=by rw [q2]
  rw [e1,show(([]:List Int).filter (AE l))=[] from rfl] at *
  rw [h1,Option.bind_some,e2]
  rw [Lz (n+4) _ (DP (M9 y lanes (AE l))) (Ai y.buses.length) (by rw [B3]; omega) (fun a ha b hb=>R5 n v2 v5 l2 (AE l) ha hb) (by rw [B3]; omega),Option.bind_some]
  rfl
end Go.Proofs.Ythcbemnflgjadaa
namespace Go.Proofs.Ythcbemnflgjadaa
open Go Go.RowKit
def J8 (s:Ar) (b:Int):Bool:=s.toL.getD b.toNat false
theorem QW (f:Int→Bool) {b:Int} (h0:0≤b) (h8:b<8):J8 (A8 f) b=f b:=by
  rcases Mt h0 h8 with h | h | h | h | h | h | h | h <;> subst h <;> rfl
def Sk (y:Ag) (k:Ev):Av :=
  ⟨(AX y (J8 k.down)).filter (J8 k.buses)++((Ai y.buses.length).filter (J8 k.down)).filter (J8 k.buses),(((AX y (J8 k.down)).filter (J8 k.buses)).length:Int)⟩
def Fp (y:Ag) (lanes:List Int) (f:Int→Bool) (k:Int):Ev:=⟨A8 (AE (Cb y lanes f k).buses),A8 (AE (((Ai y.buses.length).filter f).filter (inl lanes k)))⟩
theorem Ta {y:Ag} (hy:y.buses.length≤8) (hd:Ey [] (y.buses.map (·.turn))=false) (lanes:List Int) (f:Int→Bool) (k:Int):Sk y (Fp y lanes f k)=Cb y lanes f k:=by
  have hs:∀ b∈Ai y.buses.length,J8 (Fp y lanes f k).buses b=inl lanes k b:=fun b hb=>by
    have hb':=Ap.1 hb
    unfold Fp
    rw [QW _ hb'.1 (by omega),Bool.eq_iff_iff,FL,DD]
    exact⟨fun h=>h.2,fun h=>⟨hb,h⟩⟩
  have hf:∀ b∈Ai y.buses.length,J8 (Fp y lanes f k).down b=(f b && inl lanes k b):=fun b hb=>by
    have hb':=Ap.1 hb
    unfold Fp
    rw [QW _ hb'.1 (by omega),Bool.eq_iff_iff,FL,List.mem_filter,List.mem_filter,Bool.and_eq_true]
    exact⟨fun h=>⟨h.1.2,h.2⟩,fun h=>⟨⟨hb,h.1⟩,h.2⟩⟩
  have e1:(AX y (J8 (Fp y lanes f k).down)).filter (J8 (Fp y lanes f k).buses)=(AX y f).filter (inl lanes k):=by
    have hm:∀ x,x∈(AX y (J8 (Fp y lanes f k).down)).filter (J8 (Fp y lanes f k).buses)↔x∈(AX y f).filter (inl lanes k):=fun x=>by
      rw [List.mem_filter,List.mem_filter,BO,BO]
      constructor
      · rintro⟨⟨h1,h2⟩,h3⟩
        rw [hf x h1] at h2
        rw [hs x h1] at h3
        rw [h3,Bool.and_true] at h2
        exact⟨⟨h1,h2⟩,h3⟩
      · rintro⟨⟨h1,h2⟩,h3⟩
        exact⟨⟨h1,by rw [hf x h1,h2]; rfl⟩,by rw [hs x h1]; exact h3⟩
    refine Pg (key:=AB y) (fun a ha b hb h=>?_) ((List.Pairwise.filter _ (DU hd _)).imp fun h=>Int.le_of_lt h) ((List.Pairwise.filter _ (DU hd f)).imp fun h=>Int.le_of_lt h)
      ((List.perm_ext_iff_of_nodup (List.Pairwise.filter _ (F8 y _)) (List.Pairwise.filter _ (F8 y f))).2 hm)
    exact M0 hd (BO.1 (List.mem_filter.1 ha).1).1 (BO.1 (List.mem_filter.1 hb).1).1 h
  have e2:((Ai y.buses.length).filter (J8 (Fp y lanes f k).down)).filter (J8 (Fp y lanes f k).buses)=((Ai y.buses.length).filter f).filter (inl lanes k):=by
    rw [List.filter_filter,List.filter_filter]
    refine List.filter_congr fun b hb=>?_
    rw [hs b hb,hf b hb]
    cases f b <;> cases inl lanes k b <;> rfl
  unfold Sk Cb
  rw [e1,e2]
theorem Kh {y:Ag} (hy:y.buses.length≤8) (c:Av) (hc:∀ b∈c.buses,b∈Ai y.buses.length) (hl:c.buses.length≤100) (a:Nat) (ha:c.down=(a:Int)):∀ (n i:Nat),c.buses.length<n+i→i≤c.buses.length →
    Cl n c (i:Int) (A8 (AE (c.buses.take i))) (A8 (AE ((c.buses.take i).drop a)))=some (A8 (AE c.buses),A8 (AE (c.buses.drop a)))
  | 0,i,h,hi=>by omega
  | n+1,i,h,hi=>by
    rw [Cl,BN]
    by_cases hx:i<c.buses.length
    · have hb:=Ap.1 (hc _ (List.getElem_mem hx))
      have h8:c.buses[i]<8:=by omega
      have ih:=Kh hy c hc hl a ha n (i+1) (by omega) (by omega)
      have et:c.buses.take (i+1)=c.buses.take i++[c.buses[i]]:=by rw [List.take_add_one,List.getElem?_eq_getElem hx]; rfl
      simp only [hx,decide_true,cond_true,DN _ _ hx,Option.bind_some,Ms hb.1 h8,Pd _ hb.1 h8]
      rw [DT i (by omega)]
      have e1:(A8 fun x=>if x=c.buses[i] then true else AE (c.buses.take i) x)=A8 (AE (c.buses.take (i+1))):=Hf fun x=>by rw [et,NC]
      have e2:(A8 fun x=>if x=c.buses[i] then decide ((i:Int)≥c.down) else AE ((c.buses.take i).drop a) x)=A8 (AE ((c.buses.take (i+1)).drop a)):=Hf fun x=>by
        by_cases hq:a≤i
        · have ed:(c.buses.take (i+1)).drop a=(c.buses.take i).drop a++[c.buses[i]]:=by
            rw [et,List.drop_append_of_le_length (by rw [List.length_take]; omega)]
          rw [ed,NC,decide_eq_true (show(i:Int)≥c.down by omega)]
        · have e3:(c.buses.take (i+1)).drop a=[]:=List.drop_eq_nil_of_le (by rw [List.length_take]; omega)
          have e4:(c.buses.take i).drop a=[]:=List.drop_eq_nil_of_le (by rw [List.length_take]; omega)
          rw [e3,e4,decide_eq_false (show ¬ (i:Int)≥c.down by omega)]
          simp [AE]
      rw [e1,e2]
      exact ih
    · have:i=c.buses.length:=by omega
      subst this
      simp
theorem TF {y:Ag} (hy:y.buses.length≤8) (lanes:List Int) (f:Int→Bool) (k:Int) (n:Nat) (hn:50≤n):Cl n (Cb y lanes f k) 0 (Ar.mk false false false false false false false false) (Ar.mk false false false false false false false false)=some ((Fp y lanes f k).buses,(Fp y lanes f k).down):=by
  have hl:=O8 y lanes f k
  have h:=Kh hy (Cb y lanes f k) (fun b hb=>(DD.1 hb).1) (by omega) ((AX y f).filter (inl lanes k)).length rfl n 0 (by omega) (by omega)
  rw [List.take_zero,List.drop_nil,show((0:Nat):Int)=0 from rfl,← Tp] at h
  rw [h]
  unfold Fp
  rw [show(Cb y lanes f k).buses.drop ((AX y f).filter (inl lanes k)).length=((Ai y.buses.length).filter f).filter (inl lanes k) from List.drop_left]
def CP (y:Ag) (m:List (Ev×Int)):Prop:=∀ k v,CY m k=some v→v=(BX y (Sk y k)).many
theorem CP.put {y:Ag} {m:List (Ev×Int)} (h:CP y m) {k:Ev} {v:Int} (hv:v=(BX y (Sk y k)).many):CP y (Gn m k v):=fun k' v' h'=>by
  rw [GE] at h'
  split at h'
  · rename_i he
    subst he
    cases h'
    exact hv
  · exact h k' v' h'
theorem Hk {y:Ag} (hy:y.buses.length≤8) (hd:Ey [] (y.buses.map (·.turn))=false) (many:Int) (lanes:List Int) (f:Int→Bool) (cs:List Av) (hc:∀ c∈cs,∃ k,c=Cb y lanes f k) (hl:cs.length≤100):∀ (n i:Nat)(s:Int)(m:List (Ev×Int)),200≤n+i→i≤cs.length→0≤s∧s≤16*i→CP y m →
    ∃ m',Cm n many y cs (i:Int) s m=some (s+J2 y (cs.drop i),m')∧CP y m'
  | 0,i,s,m,h,hi,_,_=>by omega
  | n+1,i,s,m,h,hi,hs,hm=>by
    rw [Cm,BN]
    by_cases hx:i<cs.length
    · obtain⟨k,ek⟩:=hc _ (List.getElem_mem hx)
      have hcl:=O8 y lanes f k
      have hr:=EK y cs[i].down cs[i].buses 0 (-1)
      have hw:BV n y cs[i]=some (BX y cs[i]):=Pp n hy (fun b hb=>by rw [ek] at hb; exact(DD.1 hb).1) (by rw [ek]; omega) (by rw [ek]; omega)
      have hkey:=TF hy lanes f k n (by omega)
      rw [← ek] at hkey
      have hv:(BX y cs[i]).many=(BX y (Sk y (Fp y lanes f k))).many:=by rw [Ta hy hd,← ek]
      have hm0:0≤(BX y cs[i]).many∧(BX y cs[i]).many≤16:=⟨hr.1,by have:=hr.2; unfold BX; rw [ek] at this ⊢; omega⟩
      have fin:s+J2 y (cs.drop i)=(s+(BX y cs[i]).many)+J2 y (cs.drop (i+1)):=by
        rw [Ca hx]
        unfold J2
        rw [List.map_cons,List.sum_cons]
        omega
      simp only [hx,decide_true,cond_true,DN _ _ hx,Option.bind_some,hkey]
      rw [DT i (by omega)]
      cases hq:CY m (Ev.mk (Fp y lanes f k).buses (Fp y lanes f k).down) with
      | some v =>
        have ev:=hm _ _ hq
        have:DX m (Ev.mk (Fp y lanes f k).buses (Fp y lanes f k).down) (0:Int)=(v,true):=by unfold DX; rw [hq]
        simp only [this,Bool.not_true,cond_false]
        have evv:v=(BX y cs[i]).many:=by rw [ev,hv]
        rw [evv,HI (by omega) (by omega),fin]
        exact Hk hy hd many lanes f cs hc hl n (i+1) _ m (by omega) (by omega) ⟨by omega,by omega⟩ hm
      | none =>
        have:DX m (Ev.mk (Fp y lanes f k).buses (Fp y lanes f k).down) (0:Int)=(0,false):=by unfold DX; rw [hq]
        simp only [this,Bool.not_false,cond_true,hw,Option.bind_some]
        have h2:DX (Gn m (Ev.mk (Fp y lanes f k).buses (Fp y lanes f k).down) (BX y cs[i]).many) (Ev.mk (Fp y lanes f k).buses (Fp y lanes f k).down) (0:Int)=((BX y cs[i]).many,true):=by
          unfold DX; rw [GE,if_pos rfl]
        rw [h2]
        simp only
        rw [HI (by omega) (by omega),fin]
        exact Hk hy hd many lanes f cs hc hl n (i+1) _ _ (by omega) (by omega) ⟨by omega,by omega⟩ (hm.put hv)
    · have:i=cs.length:=by omega
      subst this
      exact⟨m,by simp [J2],hm⟩
def Tt (y:Ag) (lanes:List Int) (B:List (Int→Bool)) (m:Int):Int:=B.foldl (fun m f=>max m (EL y lanes f)) m
theorem R6 (y:Ag) (lanes:List Int):Tt y lanes (Bk y) 0=AD y lanes:=by
  obtain⟨h1,h2,h3⟩:=MD (EL y lanes) (Bk y) 0
  obtain⟨f,hf,e⟩:=NN y lanes
  have h4:=h2 f hf
  have h5:=h3 (AD y lanes) (by unfold AD; rw [e]; exact L6 y lanes f) fun b hb=>(HL y lanes (Bk y) (-1,FN,A8 fun _=>false)).2 b hb
  have h6:AD y lanes=EL y lanes f:=by unfold AD; rw [e]
  unfold Tt
  omega
theorem Ki {y:Ag} {lanes:List Int} (hy:y.buses.length≤8) (hm:y.room.length≤3) (hv:y.buses.all CS=true) (hd:Ey [] (y.buses.map (·.turn))=false) (hl:AW y lanes=true) (found:Bool) (many:Int) (B:List (Int→Bool)) (hB:B.length≤256):∀ (n i:Nat)(s:Int)(m:List (Ev×Int)),500≤n+i→i≤B.length→CP y m →
    ∃ r m',Cn n lanes found many (B.map A8) y (i:Int) s m=some (r,m')∧CP y m'∧(r=Tt y lanes (B.drop i) s∨(found=true∧many≤r∧many≤Tt y lanes (B.drop i) s))
  | 0,i,s,m,h,hi,_=>by omega
  | n+1,i,s,m,h,hi,hk=>by
    obtain⟨l1,l2⟩:=FM hl
    rw [Cn]
    rw [show decide ((i:Int)<(((B.map A8).length:Nat):Int))=decide (i<B.length) by rw [BN,List.length_map]]
    by_cases hx:i<B.length
    · have hix:Bv (B.map A8) (i:Int)=some (A8 B[i]):=by rw [Rv,List.getElem?_map,List.getElem?_eq_getElem hx]; rfl
      obtain⟨m1,a1,a2⟩:=Hk hy hd many lanes B[i] (BT y lanes B[i]) (fun c hc=>by
        unfold BT B8 at hc
        obtain⟨k,_,rfl⟩:=List.mem_map.1 hc
        exact⟨k,rfl⟩) (by unfold BT; rw [DV]; omega) n 0 0 m (by omega) (by omega) (by omega) hk
      rw [show((0:Nat):Int)=0 from rfl,List.drop_zero,Int.zero_add] at a1
      obtain⟨n,rfl⟩:∃ q,n=q+2:=⟨n-2,by omega⟩
      have hmx:Tt y lanes (B.drop i) s=Tt y lanes (B.drop (i+1)) (max s (EL y lanes B[i])):=by
        rw [Ca hx]
        rfl
      simp only [hx,decide_true,cond_true,hix,Option.bind_some,M3 (n+2) y lanes B[i] (by omega) hy hv l1 l2 (by omega)]
      rw [a1]
      simp only [Option.bind_some]
      rw [O3 n,Option.bind_some,DT i (by omega),hmx]
      have ih:=Ki hy hm hv hd hl found many B hB (n+2) (i+1) (max s (EL y lanes B[i])) m1 (by omega) (by omega) a2
      cases found with
      | false=>exact ih
      | true =>
        by_cases hq:max s (J2 y (BT y lanes B[i]))≥many
        · rw [cond_true,decide_eq_true hq,cond_true]
          have h1:=(MD (EL y lanes) (B.drop (i+1)) (max s (EL y lanes B[i]))).1
          refine⟨_,m1,rfl,a2,.inr ⟨rfl,by omega,?_⟩⟩
          unfold Tt
          unfold EL at h1 ⊢
          omega
        · rw [cond_true,decide_eq_false hq,cond_false]
          exact ih
    · have:i=B.length:=by omega
      subst this
      exact⟨s,m,by simp,hk,.inl (by simp [Tt])⟩
theorem NP (n:Nat) {y:Ag} {lanes:List Int} (hf:AN y=0) (hl:AW y lanes=true) (found:Bool) (many:Int) (m:List (Ev×Int)) (hk:CP y m) (hn:500≤n) :
    ∃ r m',Ff n lanes found many ((Bk y).map A8) y m=some (r,m')∧CP y m'∧(r=AD y lanes∨(found=true∧many≤r∧many≤AD y lanes)):=by
  obtain⟨v1,v0,v2,v3,v4,v5,v6⟩:=BE hf
  obtain⟨r,m',h1,h2,h3⟩:=Ki v2 v1 v5 v6 hl found many (Bk y) (JZ y v2) n 0 0 m (by omega) (by omega) hk
  rw [List.drop_zero,R6] at h3
  rw [show((0:Nat):Int)=0 from rfl] at h1
  unfold Ff
  rw [h1]
  exact⟨r,m',rfl,h2,h3⟩
def D1 (y:Ag) (pre:List Int):List Int:=CO y.room.length fun k=>A7 y.room k-(pre.count k:Int)
def OB (s:Option (List Int×Int)):Bool:=s.isSome
def QX (s:Option (List Int×Int)):Int:=match s with | none=>0 | some p=>p.2
def QY (s:Option (List Int×Int)):List Int:=match s with | none=>[] | some p=>p.1
def Sl (y:Ag) (r:Nat):Prop:=∀ (n:Nat)(pre:List Int)(s:Option (List Int×Int))(m:List (Ev×Int)),540+10*r≤n→pre.length+r=y.buses.length→Cs y.room [] pre=true→CP y m →
    ∃ m',lane_Best_2 n pre (OB s) (QX s) (QY s) (D1 y pre) y ((Bk y).map A8) m=some (OB (Cv (AD y) (J5 y.room r pre) s),QX (Cv (AD y) (J5 y.room r pre) s),QY (Cv (AD y) (J5 y.room r pre) s),D1 y pre,m')∧CP y m'
theorem P3 {n i:Nat} (h:i<n):(Ai n).drop i=(i:Int)::(Ai n).drop (i+1):=by
  have hl:i<(Ai n).length:=by rw [B3]; exact h
  have e:(Ai n)[i]? = some (i:Int):=by
    unfold Ai
    rw [List.getElem?_map,List.getElem?_range h]
    rfl
  obtain⟨_,e'⟩:=List.getElem?_eq_some_iff.1 e
  rw [Ca hl,e']
theorem Hl {y:Ag} (hf:AN y=0) (r:Nat) (H:Sl y r) (pre:List Int) (hl:pre.length+(r+1)=y.buses.length) (hR:Cs y.room [] pre=true):∀ (n i:Nat)(s:Option (List Int×Int))(m:List (Ev×Int)),546+10*r≤n+i→i≤y.room.length→CP y m →
    ∃ m',Co n pre (D1 y pre) y ((Bk y).map A8) (D1 y pre) (i:Int) (OB s) (QX s) (QY s) m =
      some (D1 y pre,OB (Cv (AD y) (((Ai y.room.length).drop i).flatMap fun k=>if (pre.count k:Int)<A7 y.room k then J5 y.room r (pre++[k]) else []) s),QX (Cv (AD y) (((Ai y.room.length).drop i).flatMap fun k=>if (pre.count k:Int)<A7 y.room k then J5 y.room r (pre++[k]) else []) s),QY (Cv (AD y) (((Ai y.room.length).drop i).flatMap fun k=>if (pre.count k:Int)<A7 y.room k then J5 y.room r (pre++[k]) else []) s),m')∧CP y m'
  | 0,i,s,m,h,hi,_=>by
    obtain⟨v1,_⟩:=BE hf
    omega
  | n+1,i,s,m,h,hi,hk=>by
    obtain⟨v1,v0,v2,v3,v4,v5,v6⟩:=BE hf
    rw [Co]
    rw [show decide ((i:Int)<(((D1 y pre).length:Nat):Int))=decide (i<y.room.length) by rw [BN]; unfold D1; rw [F9]]
    by_cases hx:i<y.room.length
    · have hbt:DO (i:Int) 0 ((y.room.length:Int)-1)=true:=by rw [AI]; omega
      have hra:=EI v4 hbt
      have hcl:pre.count (i:Int)≤pre.length:=List.count_le_length
      have hidx:Bv (D1 y pre) (i:Int)=some (A7 y.room (i:Int)-(pre.count (i:Int):Int)):=Gs hbt
      simp only [hx,decide_true,cond_true,hidx,Option.bind_some]
      rw [P3 hx,List.flatMap_cons]
      by_cases hq:(pre.count (i:Int):Int)<A7 y.room (i:Int)
      · rw [decide_eq_true (show A7 y.room (i:Int)-(pre.count (i:Int):Int)>0 by omega),cond_true,if_pos hq]
        have hup:upd (D1 y pre) (i:Int) (IntKind.i64.wrap (A7 y.room (i:Int)-(pre.count (i:Int):Int)-1))=some (D1 y (pre++[(i:Int)])):=by
          unfold D1
          rw [JN hbt]
          congr 2
          funext x
          rw [Eg]
          by_cases hxe:x=(i:Int)
          · rw [if_pos hxe,if_pos hxe,HI (by omega) (by omega),hxe]; omega
          · rw [if_neg hxe,if_neg hxe]; omega
        have hR':Cs y.room [] (pre++[(i:Int)])=true:=by
          rw [HK,hR,hbt,List.nil_append,decide_eq_true hq]
          rfl
        obtain⟨m1,a1,a2⟩:=H n (pre++[(i:Int)]) s m (by omega) (by simp; omega) hR' hk
        rw [hup,Option.bind_some,FH _ _ (by simp; omega),Option.bind_some,a1,Option.bind_some]
        have hidx2:Bv (D1 y (pre++[(i:Int)])) (i:Int)=some (A7 y.room (i:Int)-((pre++[(i:Int)]).count (i:Int):Int)):=Gs hbt
        have hup2:upd (D1 y (pre++[(i:Int)])) (i:Int) (IntKind.i64.wrap (A7 y.room (i:Int)-((pre++[(i:Int)]).count (i:Int):Int)+1))=some (D1 y pre):=by
          have hc2:=Eg pre (i:Int) (i:Int)
          rw [if_pos rfl] at hc2
          unfold D1
          rw [JN hbt]
          congr 2
          funext x
          by_cases hxe:x=(i:Int)
          · rw [if_pos hxe,HI (by omega) (by omega),hxe]; omega
          · rw [if_neg hxe,Eg,if_neg hxe]; omega
        simp only [hidx2,Option.bind_some]
        rw [hup2,Option.bind_some,DT i (by omega)]
        have el:∀ B,Cv (AD y) (J5 y.room r (pre++[(i:Int)])++B) s=Cv (AD y) B (Cv (AD y) (J5 y.room r (pre++[(i:Int)])) s):=fun B=>by unfold Cv; rw [List.foldl_append]
        rw [el]
        exact Hl hf r H pre hl hR n (i+1) _ m1 (by omega) (by omega) a2
      · rw [decide_eq_false (show ¬ A7 y.room (i:Int)-(pre.count (i:Int):Int)>0 by omega),cond_false,if_neg hq,List.nil_append,DT i (by omega)]
        exact Hl hf r H pre hl hR n (i+1) s m (by omega) (by omega) hk
    · have:i=y.room.length:=by omega
      subst this
      refine⟨m,?_,hk⟩
      rw [show(Ai y.room.length).drop y.room.length=[] from List.drop_eq_nil_of_le (by rw [B3]; exact Nat.le_refl _)]
      simp [Cv]
theorem NQ {y:Ag} (hf:AN y=0):∀ r,Sl y r
  | 0,n,pre,s,m,hn,hl,hR,hk=>by
    obtain⟨v1,v0,v2,v3,v4,v5,v6⟩:=BE hf
    obtain⟨n,rfl⟩:∃ q,n=q+1:=⟨n-1,by omega⟩
    have hlb:AW y pre=true:=by unfold AW; rw [decide_eq_true (show pre.length=y.buses.length by omega),hR]; rfl
    have hc:(((pre.length:Nat):Int) == ((y.buses.length:Nat):Int))=true:=by rw [beq_iff_eq]; omega
    cases s with
    | none =>
      show ∃ m',lane_Best_2 (n+1) pre false 0 [] (D1 y pre) y ((Bk y).map A8) m=some (true,AD y pre,pre,D1 y pre,m')∧CP y m'
      obtain⟨q,m1,a1,a2,a3⟩:=NP n hf hlb false 0 m hk (by omega)
      have hq:q=AD y pre:=by
        rcases a3 with h | ⟨h,_⟩
        · exact h
        · cases h
      refine⟨m1,?_,a2⟩
      rw [lane_Best_2,hc,cond_true,a1,hq]
      simp only [Option.bind_some,Bool.not_false,cond_true,JK n pre (by omega)]
    | some p =>
      obtain⟨b,k⟩:=p
      obtain⟨q,m1,a1,a2,a3⟩:=NP n hf hlb true k m hk (by omega)
      have e:Cv (AD y) (J5 y.room 0 pre) (some (b,k))=if AD y pre<k then some (pre,AD y pre) else some (b,k):=rfl
      by_cases hq:AD y pre<k
      · rw [e,if_pos hq]
        show ∃ m',lane_Best_2 (n+1) pre true k b (D1 y pre) y ((Bk y).map A8) m=some (true,AD y pre,pre,D1 y pre,m')∧CP y m'
        have hw:q=AD y pre:=by
          rcases a3 with h | ⟨_,_,h⟩
          · exact h
          · omega
        refine⟨m1,?_,a2⟩
        rw [lane_Best_2,hc,cond_true,a1,hw]
        simp only [Option.bind_some,Bool.not_true,cond_false,decide_eq_true hq,cond_true,JK n pre (by omega)]
      · rw [e,if_neg hq]
        show ∃ m',lane_Best_2 (n+1) pre true k b (D1 y pre) y ((Bk y).map A8) m=some (true,k,b,D1 y pre,m')∧CP y m'
        have hw : ¬ q<k:=by
          rcases a3 with h | ⟨_,h,_⟩
          · rw [h]; exact hq
          · omega
        refine⟨m1,?_,a2⟩
        rw [lane_Best_2,hc,cond_true,a1]
        simp only [Option.bind_some,Bool.not_true,cond_false,decide_eq_false hw]
  | r+1,n,pre,s,m,hn,hl,hR,hk=>by
    obtain⟨n,rfl⟩:∃ q,n=q+1:=⟨n-1,by omega⟩
    rw [lane_Best_2,show((((pre.length:Nat):Int) == ((y.buses.length:Nat):Int)))=false by
      cases hq:(((pre.length:Nat):Int) == ((y.buses.length:Nat):Int)) with
      | false=>rfl
      | true=>rw [beq_iff_eq] at hq; omega,cond_false]
    obtain⟨m1,a1,a2⟩:=Hl hf r (NQ hf r) pre hl hR n 0 s m (by omega) (by omega) hk
    refine⟨m1,?_,a2⟩
    rw [show((0:Nat):Int)=0 from rfl,List.drop_zero] at a1
    rw [a1]
    rfl
theorem R7 (y:Ag):D1 y []=y.room:=by
  unfold D1
  conv=>rhs; rw [GF y.room]
  congr 1
  funext k
  unfold A7
  simp
theorem Ml (n:Nat) {y:Ag} (hf:AN y=0) (hn:640≤n):DF n y=some (match DQ y with | none=>([],0,9) | some p=>(p.1,p.2,0)):=by
  obtain⟨v1,v0,v2,v3,v4,v5,v6⟩:=BE hf
  obtain⟨m,a1,_⟩:=NQ hf y.buses.length n [] none [] (by omega) (by simp) rfl (fun k v h=>by simp [CY] at h)
  unfold DF
  rw [Pb n y (by omega) (by omega) (by omega) (by omega),Option.bind_some,hf,NJ n v2 v3 (by omega),Option.bind_some,JK n y.room (by omega),Option.bind_some]
  rw [R7] at a1
  simp only [bne_self_eq_false,cond_false]
  rw [show lane_Best_2 n [] false 0 [] y.room y ((Bk y).map A8) []=_ from a1,Option.bind_some]
  rw [show Cv (AD y) (J5 y.room y.buses.length []) none=DQ y from rfl]
  cases DQ y with
  | none=>rfl
  | some p=>rfl
end Go.Proofs.Ythcbemnflgjadaa
namespace Go.Proofs.Ythcbemnflgjadaa
open Go Go.RowKit
end Go.Proofs.Ythcbemnflgjadaa
namespace Go.Proofs.Ythcbemnflgjadaa
open Go Go.RowKit
theorem Sm {y:Ag} (v1:y.room.length≤3) (v0:0<y.room.length) (v2:y.buses.length≤8) (v3:DO y.broken 0 2=true) (v4:(y.room.all fun r=>DO r 0 8)=true) (v5:y.buses.all CS=true) (v6:Ey [] (y.buses.map (·.turn))=false):AN y=0:=by
  unfold AN
  rw [if_neg (by omega),if_neg (by
    simp only [not_or]
    exact⟨by omega,by rw [v3]; simp,by rw [v4]; simp,by rw [v5]; simp,by rw [v6]; simp⟩)]
theorem GI (y:Ag):y.buses=B8 y.buses.length (An y):=M2 rfl fun k hk=>by
  unfold An
  rw [Int.toNat_natCast,List.getD_eq_getElem?_getD,List.getElem?_eq_getElem hk]
  rfl
theorem NR (room:List Int) (N:Nat) (g:Int→Bb) (br:Int) {b:Int} (hb:b∈Ai N):An (Ag.mk room (B8 N g) br) b=g b:=by
  have hb':=Ap.1 hb
  unfold An
  simp only
  rw [List.getD_eq_getElem?_getD,JV (show b.toNat<N by omega),show((b.toNat:Nat):Int)=b by omega]
  rfl
theorem Q0 (R:Nat) (p:Int→Int) {k:Int} (hk:k∈Ai R):A7 (CO R p) k=p k:=by
  have hk':=Ap.1 hk
  unfold A7
  rw [List.getD_eq_getElem?_getD,Mj (show k.toNat<R by omega),show((k.toNat:Nat):Int)=k by omega]
  rfl
theorem GJ (y:Ag):y.room=CO y.room.length (A7 y.room):=GF y.room
def HC (R N:Nat) (p:Int→Int) (g:Int→Bb) (br:Int):Ag:=⟨CO R p,B8 N g,br⟩
theorem Q1 {R N:Nat} {p:Int→Int} {g:Int→Bb} {br:Int} (h1:R≤3) (h0:0<R) (h2:N≤8) (h3:0≤br∧br≤2) (h4:∀ k∈Ai R,0≤p k∧p k≤8)
    (h5:∀ b∈Ai N,CS (g b)=true) (h6:∀ a∈Ai N,∀ b∈Ai N,(g a).turn=(g b).turn→a=b):AN (HC R N p g br)=0:=by
  refine Sm (by unfold HC; simpa [F9] using h1) (by unfold HC; simpa [F9] using h0) (by unfold HC; simpa [DV] using h2) (AI.2 h3) ?_ ?_ ?_
  · rw [List.all_eq_true]
    intro x hx
    unfold HC CO at hx
    obtain⟨k,hk,rfl⟩:=List.mem_map.1 hx
    exact AI.2 (h4 k hk)
  · rw [List.all_eq_true]
    intro x hx
    unfold HC B8 at hx
    obtain⟨k,hk,rfl⟩:=List.mem_map.1 hx
    exact h5 k hk
  · unfold HC B8
    rw [List.map_map]
    exact QR _ _ (by simp) (NI (f:=fun b=>(g b).turn) (DC _) h6)
theorem LA {a b:List Int} (hl:a.length=b.length) (h:∀ k∈Ai a.length,A7 a k≤A7 b k):∀ (l pre:List Int),Cs a pre l=true→Cs b pre l=true
  | [],_,_=>rfl
  | n::r,pre,H=>by
    unfold Cs at H ⊢
    simp only [Bool.and_eq_true,decide_eq_true_eq] at H
    have hn:=AI.1 H.1
    have:=h n (by rw [Ap]; omega)
    rw [← hl,H.1,decide_eq_true (show(pre.count n:Int)<A7 b n by omega),LA hl h r _ H.2.2]
    rfl
theorem Tb {y:Ag} (hf:AN y=0) (p:Int→Int) (g:Int→Bb) (br:Int) (h1:∀ k∈Ai y.room.length,A7 y.room k≤p k∧p k≤8)
    (h2:∀ b∈Ai y.buses.length,(g b).turn=AB y b∧(An y b).lo≤(g b).lo∧(g b).lo≤(g b).hi∧(g b).hi≤(An y b).hi) (h3:0≤br∧br≤y.broken) :
    AN (HC y.room.length y.buses.length p g br)=0∧(∀ l,AW y l=true→AW (HC y.room.length y.buses.length p g br) l=true∧AD (HC y.room.length y.buses.length p g br) l≤AD y l):=by
  obtain⟨v1,v0,v2,v3,v4,v5,v6⟩:=BE hf
  have v3':=AI.1 v3
  have hxf:AN (HC y.room.length y.buses.length p g br)=0:=by
    refine Q1 v1 v0 v2 ⟨h3.1,by omega⟩ (fun k hk=>?_) (fun b hb=>?_) fun a ha b hb h=>?_
    · have hk':=Ap.1 hk
      have:=h1 k hk
      have:=EI v4 (show DO k 0 ((y.room.length:Int)-1)=true by rw [AI]; omega)
      omega
    · have q:=h2 b hb
      have k:=CE v5 (Bc.2 hb)
      unfold AB at q
      unfold CS
      rw [AI.2 (show 0≤(g b).lo∧(g b).lo≤(g b).hi by omega),decide_eq_true (show(g b).hi≤2000 by omega),AI.2 (show 0≤(g b).turn∧(g b).turn≤2000 by omega)]
      rfl
    · rw [(h2 a ha).1,(h2 b hb).1] at h
      exact M0 v6 ha hb h
  have hbl:(HC y.room.length y.buses.length p g br).buses.length=y.buses.length:=DV _ _
  have hrl:(HC y.room.length y.buses.length p g br).room.length=y.room.length:=F9 _ _
  have hat:∀ b∈Ai y.buses.length,An (HC y.room.length y.buses.length p g br) b=g b:=fun b hb=>NR _ _ _ _ hb
  refine⟨hxf,fun l hl=>?_⟩
  have hlx:AW (HC y.room.length y.buses.length p g br) l=true:=by
    unfold AW at hl ⊢
    rw [Bool.and_eq_true] at hl
    rw [hbl,hl.1,LA hrl.symm (fun k hk=>?_) _ _ hl.2]
    · rfl
    · rw [show(HC y.room.length y.buses.length p g br).room=CO y.room.length p from rfl,Q0 _ _ hk]
      exact(h1 k hk).1
  refine⟨hlx,HU hxf hf hbl (fun a ha b hb=>?_) (fun o ho=>J6 hbl (fun a ha b hb h=>?_) ho) (fun b hb=>J7 hbl h3.2 hb) hlx hl⟩
  · unfold AB
    rw [hat a ha,hat b hb,(h2 a ha).1,(h2 b hb).1]
    exact Iff.rfl
  · rw [hat a ha,hat b hb] at h
    have q1:=h2 a ha
    have q2:=h2 b hb
    omega
theorem Q2 {y x:Ag} (h:∀ l,AW y l=true→AW x l=true∧AD x l≤AD y l) {b:List Int} {m:Int} (hb:DQ y=some (b,m)):∃ c k,DQ x=some (c,k)∧k≤m:=by
  obtain⟨q1,q2,q3⟩:=Gw hb
  obtain⟨r1,r2⟩:=h b q1
  cases hx:DQ x with
  | none =>
    have:=L8 hx b
    rw [r1] at this
    cases this
  | some p =>
    obtain⟨c,k⟩:=p
    have:=(Gw hx).2.2 b r1
    exact⟨c,k,rfl,by omega⟩
theorem OC (y:Ag) (hf:AN y=0) (which at_:IK .u8) (by_:IK .u16) (hw:0≤which.n) (hat:0≤at_.n∧at_.n≤255) (hby:0≤by_.n∧by_.n≤65535) :
    ∃ p g br,((bif ((Int.tmod which.n 4) == 0) then
  some (y.buses,y.room,if (IntKind.i64.wrap ((IntKind.i64.wrap (y.broken-1))-(Int.tmod (Int.tmod (IntKind.i64.wrap by_.n) 40) 2)))>0 then(IntKind.i64.wrap ((IntKind.i64.wrap (y.broken-1))-(Int.tmod (Int.tmod (IntKind.i64.wrap by_.n) 40) 2))) else 0)
  else
  (bif ((Int.tmod which.n 4) == 1) then
  ((nz ((y.room.length:Nat):Int)).bind fun x69 =>
  ((Bv y.room (Int.tmod (IntKind.i64.wrap at_.n) ((y.room.length:Nat):Int))).bind fun x76 =>
  ((Bv y.room (Int.tmod (IntKind.i64.wrap at_.n) ((y.room.length:Nat):Int))).bind fun x82 =>
  ((upd y.room (Int.tmod (IntKind.i64.wrap at_.n) ((y.room.length:Nat):Int)) (if (IntKind.i64.wrap (x76+(Int.tmod (Int.tmod (IntKind.i64.wrap by_.n) 40) 3)))<8 then(IntKind.i64.wrap (x76+(Int.tmod (Int.tmod (IntKind.i64.wrap by_.n) 40) 3))) else 8)).bind fun u_152 =>
  some (y.buses,u_152,y.broken)))))
  else
  (bif decide (((y.buses.length:Nat):Int)>0) then
  ((nz ((y.buses.length:Nat):Int)).bind fun x95 =>
  ((Bv y.buses (Int.tmod (IntKind.i64.wrap at_.n) ((y.buses.length:Nat):Int))).bind fun x96 =>
  (bif ((Int.tmod which.n 4) == 2) then
  ((upd y.buses (Int.tmod (IntKind.i64.wrap at_.n) ((y.buses.length:Nat):Int)) (Bb.mk (if (IntKind.i64.wrap (x96.lo+(Int.tmod (IntKind.i64.wrap by_.n) 40)))<x96.hi then(IntKind.i64.wrap (x96.lo+(Int.tmod (IntKind.i64.wrap by_.n) 40))) else x96.hi) x96.hi x96.turn)).bind fun u_191 =>
  some (u_191,y.room,y.broken))
  else
  ((upd y.buses (Int.tmod (IntKind.i64.wrap at_.n) ((y.buses.length:Nat):Int)) (Bb.mk x96.lo (if (IntKind.i64.wrap (x96.hi-(Int.tmod (IntKind.i64.wrap by_.n) 40)))>x96.lo then(IntKind.i64.wrap (x96.hi-(Int.tmod (IntKind.i64.wrap by_.n) 40))) else x96.lo) x96.turn)).bind fun u_205 =>
  some (u_205,y.room,y.broken)))))
  else
  some (y.buses,y.room,y.broken)))):Option ((List Bb)×(List Int)×Int))=some (B8 y.buses.length g,CO y.room.length p,br) ∧
    (∀ k∈Ai y.room.length,A7 y.room k≤p k∧p k≤8) ∧
    (∀ b∈Ai y.buses.length,(g b).turn=AB y b∧(An y b).lo≤(g b).lo∧(g b).lo≤(g b).hi∧(g b).hi≤(An y b).hi)∧0≤br∧br≤y.broken:=by
  obtain⟨v1,v0,v2,v3,v4,v5,v6⟩:=BE hf
  have v3':=AI.1 v3
  have hroom:∀ k∈Ai y.room.length,A7 y.room k≤A7 y.room k∧A7 y.room k≤8:=fun k hk=>by
    have hk':=Ap.1 hk
    have:=EI v4 (show DO k 0 ((y.room.length:Int)-1)=true by rw [AI]; omega)
    omega
  have hbus:∀ b∈Ai y.buses.length,(An y b).turn=AB y b∧(An y b).lo≤(An y b).lo∧(An y b).lo≤(An y b).hi∧(An y b).hi≤(An y b).hi:=fun b hb=>by
    have:=CE v5 (Bc.2 hb)
    refine⟨rfl,?_⟩
    omega
  have wa:IntKind.i64.wrap at_.n=at_.n:=HI (by omega) (by omega)
  have wb:IntKind.i64.wrap by_.n=by_.n:=HI (by omega) (by omega)
  have t40:=Eh hby.1 (show(0:Int)<40 by omega)
  have t2:=Eh t40.1 (show(0:Int)<2 by omega)
  have t3:=Eh t40.1 (show(0:Int)<3 by omega)
  rw [wa,wb]
  cases (Int.tmod which.n 4) == 0 with
  | true =>
    refine⟨A7 y.room,An y,_,by rw [cond_true,← GI,← GJ],hroom,hbus,?_⟩
    rw [HI (x:=y.broken-1) (by omega) (by omega),HI (by omega) (by omega)]
    split <;> omega
  | false =>
    rw [cond_false]
    cases (Int.tmod which.n 4) == 1 with
    | true =>
      have tr:=Eh hat.1 (show(0:Int)<(y.room.length:Int) by omega)
      generalize hk:Int.tmod at_.n (y.room.length:Int)=k at tr
      have hbt:DO k 0 ((y.room.length:Int)-1)=true:=by rw [AI]; omega
      have hra:=EI v4 hbt
      have er:Bv y.room k=some (A7 y.room k):=by
        have:=Gs (g:=fun k=>y.room.getD k.toNat 0) hbt
        rwa [← GF y.room] at this
      refine⟨fun x=>if x=k then(if A7 y.room k+Int.tmod (Int.tmod by_.n 40) 3<8 then A7 y.room k+Int.tmod (Int.tmod by_.n 40) 3 else 8) else A7 y.room x,An y,y.broken,?_,fun j hj=>?_,hbus,v3'.1,Int.le_refl _⟩
      · rw [cond_true,Pi (show((y.room.length:Nat):Int)≠0 by omega),Option.bind_some,er]
        simp only [Option.bind_some]
        rw [HI (x:=A7 y.room k+Int.tmod (Int.tmod by_.n 40) 3) (by omega) (by omega)]
        have hu:=JN (g:=A7 y.room) (v:=if A7 y.room k+Int.tmod (Int.tmod by_.n 40) 3<8 then A7 y.room k+Int.tmod (Int.tmod by_.n 40) 3 else 8) hbt
        rw [← GJ] at hu
        rw [hu,Option.bind_some,← GI]
      · have:=hroom j hj
        by_cases hj2:j=k
        · simp only [if_pos hj2]
          rw [hj2]
          split <;> omega
        · simp only [if_neg hj2]
          exact this
    | false =>
      rw [cond_false]
      by_cases hN:y.buses.length=0
      · refine⟨A7 y.room,An y,y.broken,?_,hroom,hbus,v3'.1,Int.le_refl _⟩
        rw [decide_eq_false (show ¬ ((y.buses.length:Nat):Int)>0 by omega),cond_false,← GI,← GJ]
      · have tr:=Eh hat.1 (show(0:Int)<(y.buses.length:Int) by omega)
        generalize hk:Int.tmod at_.n (y.buses.length:Int)=k at tr
        have hbt:DO k 0 ((y.buses.length:Int)-1)=true:=by rw [AI]; omega
        have hkb:=CE v5 hbt
        have hu:∀ v:Bb,upd y.buses k v=some (B8 y.buses.length fun x=>if x=k then v else An y x):=fun v=>by
          have:=JW (g:=An y) (v:=v) hbt
          rwa [← GI] at this
        rw [decide_eq_true (show((y.buses.length:Nat):Int)>0 by omega),cond_true,Pi (show((y.buses.length:Nat):Int)≠0 by omega),Option.bind_some,EV y hbt,Option.bind_some]
        have w1:IntKind.i64.wrap ((An y k).lo+Int.tmod by_.n 40)=(An y k).lo+Int.tmod by_.n 40:=HI (by omega) (by omega)
        have w2:IntKind.i64.wrap ((An y k).hi-Int.tmod by_.n 40)=(An y k).hi-Int.tmod by_.n 40:=HI (by omega) (by omega)
        rw [w1,w2]
        cases (Int.tmod which.n 4) == 2 with
        | true =>
          refine⟨A7 y.room,fun x=>if x=k then Bb.mk (if (An y k).lo+Int.tmod by_.n 40<(An y k).hi then(An y k).lo+Int.tmod by_.n 40 else(An y k).hi) (An y k).hi (An y k).turn else An y x,y.broken,?_,hroom,fun b hb=>?_,v3'.1,Int.le_refl _⟩
          · rw [cond_true,hu,Option.bind_some,← GJ]
          · by_cases hbk:b=k
            · simp only [if_pos hbk]
              rw [hbk]
              refine⟨rfl,?_⟩
              split <;> omega
            · simp only [if_neg hbk]
              exact hbus b hb
        | false =>
          refine⟨A7 y.room,fun x=>if x=k then Bb.mk (An y k).lo (if (An y k).hi-Int.tmod by_.n 40>(An y k).lo then(An y k).hi-Int.tmod by_.n 40 else(An y k).lo) (An y k).turn else An y x,y.broken,?_,hroom,fun b hb=>?_,v3'.1,Int.le_refl _⟩
          · rw [cond_false,hu,Option.bind_some,← GJ]
          · by_cases hbk:b=k
            · simp only [if_pos hbk]
              rw [hbk]
              refine⟨rfl,?_⟩
              split <;> omega
            · simp only [if_neg hbk]
              exact hbus b hb
theorem N1 (y:Ag) (which at_:IK .u8) (by_:IK .u16) (hwh:0≤which.n) (hat:0≤at_.n∧at_.n≤255) (hby:0≤by_.n∧by_.n≤65535) (words:List (IK .u16)) (hw:TR words):EY 700 y which at_ by_ words=some true:=by
  unfold EY
  rw [Pm 700 y (by omega)]
  simp only [Option.bind_some,Mr]
  by_cases hf:AN y=0
  rotate_left
  · simp [hf]
  obtain⟨v1,v0,v2,v3,v4,v5,v6⟩:=BE hf
  rw [show(decide (y.room.length≤6) && decide (y.buses.length≤12) && decide (AN y=0))=true by
    rw [decide_eq_true hf,decide_eq_true (show y.room.length≤6 by omega),decide_eq_true (show y.buses.length≤12 by omega)]; rfl]
  simp only [Bool.not_true,cond_false]
  rw [Gq 700 y.room (by omega),Option.bind_some,FH _ _ (by simp; omega),List.nil_append,Option.bind_some]
  obtain⟨p,g,br,e,h1,h2,h3⟩:=OC y hf which at_ by_ hwh hat hby
  rw [e,Option.bind_some]
  obtain⟨hxf,hx⟩:=Tb hf p g br h1 h2 h3
  simp only
  rw [show Ag.mk (CO y.room.length p) (B8 y.buses.length g) br=HC y.room.length y.buses.length p g br from rfl]
  generalize HC y.room.length y.buses.length p g br=x at hxf hx
  obtain⟨u1,u0,u2,u3,u4,u5,u6⟩:=BE hxf
  rw [Gr 700 y (by omega) (by omega) (by omega),Option.bind_some,Ml 700 hf (by omega),Option.bind_some,Gr 700 x (by omega) (by omega) (by omega),Option.bind_some,Ml 700 hxf (by omega),Option.bind_some]
  obtain⟨other,is,e1,e2,e3⟩:=L7 700 v0 v4 (by omega) (by omega) hw (by omega)
  cases hb:DQ y with
  | none =>
    cases DQ x with
    | none=>rfl
    | some q=>rfl
  | some q =>
    obtain⟨b,m⟩:=q
    obtain⟨c,k,hc,hk⟩:=Q2 hx hb
    cases is with
    | false =>
      have:=(e3 rfl).2 b
      rw [(Gw hb).1] at this
      cases this
    | true =>
      obtain⟨l1,l2⟩:=e2 rfl
      obtain⟨r1,r2⟩:=hx other l1
      obtain⟨o,br1,w1,_,_,_⟩:=Kg 700 hf l1 (by omega)
      obtain⟨o2,br2,w2,_,_,_⟩:=Kg 700 hxf r1 (by omega)
      rw [hc]
      simp only [bne_self_eq_false,cond_false]
      rw [e1]
      simp only [Option.bind_some,Gq 700 other (by omega),w1,w2,beq_self_eq_true,cond_true,decide_eq_true hk,decide_eq_true r2]
end Go.Proofs.Ythcbemnflgjadaa
namespace Go.Proofs.Ythcbemnflgjadaa
open Go Go.RowKit
theorem HV {α:Type} {m:Nat} {f g:Int→α} (h:∀ x∈Ai m,f x=g x):B8 m f=B8 m g:=List.map_congr_left h
def Cu (y:Ag):List Int:=AX y (AE [])
theorem CF {y:Ag} {b:Int}:b∈Cu y↔b∈Ai y.buses.length:=by
  unfold Cu
  rw [BO]
  exact⟨fun h=>h.1,fun h=>⟨h,by simp [AE]⟩⟩
theorem FQ (y:Ag):(Cu y).length=y.buses.length:=by
  unfold Cu AX JM
  rw [D0,List.filter_eq_self.2 (fun b _=>by simp [AE]),B3]
theorem NS {y:Ag} (hd:Ey [] (y.buses.map (·.turn))=false) {a b:Int} (ha:a∈Ai y.buses.length) (hb:b∈Ai y.buses.length):BW (Cu y) a<BW (Cu y) b↔AB y a<AB y b:=by
  have hs:=DU hd (AE [])
  constructor
  · intro h
    exact IG hs (CF.2 ha) (CF.2 hb) h
  · intro h
    exact(MA (hs.imp fun h=>Int.le_of_lt h) (CF.2 ha) (CF.2 hb)).1 h
def EO (y:Ag) (by_:Int) (b:Int):Bb:=⟨(An y b).lo+by_,(An y b).hi+by_,3*BW (Cu y) b+1⟩
theorem Ja {y:Ag} (hy:y.buses.length≤8) (hv:y.buses.all CS=true) (by_:IK .u16) (hby:0≤by_.n∧by_.n≤65535):∀ (n i:Nat),y.buses.length<n+i→i≤y.buses.length →
    BC n by_ (Cu y) (B8 y.buses.length fun x=>if BW (Cu y) x<(i:Int) then EO y by_.n x else An y x) (i:Int)=some (B8 y.buses.length (EO y by_.n))
  | 0,i,h,hi=>by omega
  | n+1,i,h,hi=>by
    rw [BC,BN,FQ]
    by_cases hx:i<y.buses.length
    · have hi':i<(Cu y).length:=by rw [FQ]; exact hx
      have hb:=CF.1 (List.getElem_mem hi')
      have hbt:=Bc.2 hb
      have hk:=CE hv hbt
      have hp:BW (Cu y) (Cu y)[i]=i:=Sd (F8 y _) hi'
      have ih:=Ja hy hv by_ hby n (i+1) (by omega) (by omega)
      have w0:IntKind.i64.wrap by_.n=by_.n:=HI (by omega) (by omega)
      simp only [hx,decide_true,cond_true,DN _ _ hi',Option.bind_some,M1 hbt,hp,w0]
      rw [if_neg (show ¬ (i:Int)<(i:Int) by omega)]
      rw [HI (x:=(An y (Cu y)[i]).lo+by_.n) (by omega) (by omega),HI (x:=(An y (Cu y)[i]).hi+by_.n) (by omega) (by omega),HI (x:=3*(i:Int)) (by omega) (by omega),HI (x:=3*(i:Int)+1) (by omega) (by omega),DT i (by omega)]
      simp only [JW hbt,Option.bind_some]
      rw [← ih]
      congr 1
      refine HV fun x hxr=>?_
      by_cases hxe:x=(Cu y)[i]
      · simp only [if_pos hxe]
        rw [hxe,hp,if_pos (by omega)]
        unfold EO
        rw [hp]
      · simp only [if_neg hxe]
        have hne:BW (Cu y) x≠(i:Int):=fun hq=>hxe (JQ (CF.2 hxr) (List.getElem_mem hi') (by rw [hq,hp]))
        by_cases hlt:BW (Cu y) x<(i:Int)
        · rw [if_pos hlt,if_pos (by omega)]
        · rw [if_neg hlt,if_neg (by omega)]
    · have:i=y.buses.length:=by omega
      subst this
      simp only [Nat.lt_irrefl,decide_false,cond_false]
      congr 1
      refine HV fun x hxr=>?_
      have:=JU (CF.2 hxr)
      rw [FQ] at this
      rw [if_pos (by omega)]
def BY (y:Ag) (j:Nat):Int:=(Cu y).getD j 0
theorem ME (y:Ag) {j:Nat} (h:j<y.buses.length):Bv (Cu y) (j:Int)=some (BY y j)∧BY y j∈Ai y.buses.length:=by
  have h':j<(Cu y).length:=by rw [FQ]; exact h
  have e:BY y j=(Cu y)[j]:=by unfold BY; rw [List.getD_eq_getElem?_getD,List.getElem?_eq_getElem h']; rfl
  rw [e]
  exact⟨DN _ _ h',CF.1 (List.getElem_mem h')⟩
theorem Ep {y:Ag} {b:Int} (hb:b∈Ai y.buses.length):BY y (BW (Cu y) b).toNat=b:=by
  unfold BY
  rw [List.getD_eq_getElem?_getD,Pn (CF.2 hb)]
  rfl
theorem Jb {y:Ag} (hy:y.buses.length≤8) {lanes:List Int} (hl:lanes.length=y.buses.length) (i:Nat) (hi:i<y.buses.length):∀ (n k:Nat)(s a:Bool),i<n+k→k≤i →
    ∃ s' a',AF n y (true,lanes) (Cu y) (i:Int) (k:Int) s a=some (s',a')∧(a' = true→a=true∧∀ j,k≤j→j<i→AA lanes (BY y i)≠AA lanes (BY y j))∧(s' = true→s=true∧∀ j,k≤j→j<i→(An y (BY y j)).hi<(An y (BY y i)).lo)
  | 0,k,s,a,h,hk=>by omega
  | n+1,k,s,a,h,hk=>by
    rw [AF]
    by_cases hx:k<i
    · obtain⟨t1,t2⟩:=ME y hi
      obtain⟨u1,u2⟩:=ME y (show k<y.buses.length by omega)
      have t3:=Ap.1 t2
      have u3:=Ap.1 u2
      rw [decide_eq_true (show(k:Int)<(i:Int) by omega),cond_true]
      have ea:((bif a then((Bv (Cu y) (i:Int)).bind fun x173=>((Bv lanes x173).bind fun x175=>((Bv (Cu y) (k:Int)).bind fun x180=>((Bv lanes x180).bind fun x182=>some (x175 != x182))))) else some false):Option Bool)=some (a && (AA lanes (BY y i) != AA lanes (BY y k))):=by
        cases a with
        | false=>rfl
        | true=>simp only [cond_true,t1,u1,Option.bind_some,JP lanes t3.1 (show BY y i<lanes.length by omega),JP lanes u3.1 (show BY y k<lanes.length by omega),Bool.true_and]
      have es:∀ (o:Bool),((bif s then((Bv (Cu y) (k:Int)).bind fun x192=>((Bv y.buses x192).bind fun x194=>((Bv (Cu y) (i:Int)).bind fun x201=>((Bv y.buses x201).bind fun x203=>AF n y (true,lanes) (Cu y) (i:Int) (IntKind.i64.wrap ((k:Int)+1)) (decide (x194.hi<x203.lo)) o)))) else AF n y (true,lanes) (Cu y) (i:Int) (IntKind.i64.wrap ((k:Int)+1)) false o)) =
          AF n y (true,lanes) (Cu y) (i:Int) ((k+1:Nat):Int) (s && decide ((An y (BY y k)).hi<(An y (BY y i)).lo)) o:=fun o=>by
        rw [DT k (by omega)]
        cases s with
        | false=>rfl
        | true=>simp only [cond_true,t1,u1,Option.bind_some,EV y (Bc.2 t2),EV y (Bc.2 u2),Bool.true_and]
      rw [ea,Option.bind_some,es]
      obtain⟨s',a',e,h1,h2⟩:=Jb hy hl i hi n (k+1) (s && decide ((An y (BY y k)).hi<(An y (BY y i)).lo)) (a && (AA lanes (BY y i) != AA lanes (BY y k))) (by omega) (by omega)
      refine⟨s',a',e,fun hq=>?_,fun hq=>?_⟩
      · obtain⟨q1,q2⟩:=h1 hq
        rw [Bool.and_eq_true,bne_iff_ne] at q1
        refine⟨q1.1,fun j hj hji=>?_⟩
        by_cases hjk:j=k
        · rw [hjk]; exact q1.2
        · exact q2 j (by omega) hji
      · obtain⟨q1,q2⟩:=h2 hq
        rw [Bool.and_eq_true,decide_eq_true_eq] at q1
        refine⟨q1.1,fun j hj hji=>?_⟩
        by_cases hjk:j=k
        · rw [hjk]; exact q1.2
        · exact q2 j (by omega) hji
    · refine⟨s,a,?_,fun h=>⟨h,fun j hj hji=>by omega⟩,fun h=>⟨h,fun j hj hji=>by omega⟩⟩
      rw [decide_eq_false (show ¬ (k:Int)<(i:Int) by omega),cond_false]
theorem Jc {y:Ag} (hy:y.buses.length≤8) {lanes:List Int} (hl:lanes.length=y.buses.length):∀ (n i:Nat)(s a:Bool),30≤n+i→i≤y.buses.length →
    ∃ s' a',Bj n y (true,lanes) (Cu y) (i:Int) s a=some (s',a')∧(a' = true→a=true∧∀ k j,i≤k→k<y.buses.length→j<k→AA lanes (BY y k)≠AA lanes (BY y j))∧(s' = true→s=true∧∀ k j,i≤k→k<y.buses.length→j<k→(An y (BY y j)).hi<(An y (BY y k)).lo)
  | 0,i,s,a,h,hi=>by omega
  | n+1,i,s,a,h,hi=>by
    rw [Bj,BN,FQ]
    by_cases hx:i<y.buses.length
    · obtain⟨s1,a1,e1,p1,p2⟩:=Jb hy hl i hx n 0 s a (by omega) (by omega)
      obtain⟨s',a',e,h1,h2⟩:=Jc hy hl n (i+1) s1 a1 (by omega) (by omega)
      rw [show((0:Nat):Int)=0 from rfl] at e1
      simp only [hx,decide_true,cond_true,e1,Option.bind_some]
      rw [DT i (by omega)]
      refine⟨s',a',e,fun hq=>?_,fun hq=>?_⟩
      · obtain⟨q1,q2⟩:=h1 hq
        obtain⟨r1,r2⟩:=p1 q1
        refine⟨r1,fun k j hk hkN hj=>?_⟩
        by_cases hki:k=i
        · subst hki; exact r2 j (by omega) hj
        · exact q2 k j (by omega) hkN hj
      · obtain⟨q1,q2⟩:=h2 hq
        obtain⟨r1,r2⟩:=p2 q1
        refine⟨r1,fun k j hk hkN hj=>?_⟩
        by_cases hki:k=i
        · subst hki; exact r2 j (by omega) hj
        · exact q2 k j (by omega) hkN hj
    · refine⟨s,a,?_,fun h=>⟨h,fun k j hk hkN hj=>by omega⟩,fun h=>⟨h,fun k j hk hkN hj=>by omega⟩⟩
      simp only [hx,decide_false,cond_false]
theorem Jd (y:Ag) (o:Bool×List Int) (ts:List Int) (i:Int):∀ (n:Nat)(k:Int)(s a:Bool),B1 n y o ts i k s a=AF n y o ts i k s a
  | 0,_,_,_=>rfl
  | n+1,k,s,a=>by
    rw [B1,AF]
    simp only [Jd y o ts i n]
theorem Je (y:Ag) (o:Bool×List Int) (ts:List Int):∀ (n:Nat)(i:Int)(s a:Bool),BD n y o ts i s a=Bj n y o ts i s a
  | 0,_,_,_=>rfl
  | n+1,i,s,a=>by
    rw [BD,Bj]
    simp only [Je y o ts n,Jd]
theorem Kj {y:Ag} (hf:AN y=0) {lanes:List Int} (hl:AW y lanes=true) (h:∀ o b,Fc y o=true→Ez y b=true→∀ c e,c∈Ai y.buses.length→¬ Qt y lanes o b c e):AD y lanes=0:=by
  obtain⟨v1,v0,v2,v3,v4,v5,v6⟩:=BE hf
  obtain⟨l,_,_,q3,q4,q5⟩:=HT hf hl
  have:Ci y lanes (G7 y lanes (AE l)) (GH y (AE l))=[]:=by
    rw [List.eq_nil_iff_forall_not_mem]
    intro c hc
    obtain⟨hcr,b,hb⟩:=(FJ v6 lanes _ _ c).1 hc
    exact h _ _ q3 q4 c b hcr hb
  rw [this] at q5
  simpa using q5.symm
theorem Q3 {y:Ag} (hf:AN y=0) {lanes:List Int} (hl:AW y lanes=true) (h:∀ k j,0≤k→k<y.buses.length→j<k→AA lanes (BY y k)≠AA lanes (BY y j)):AD y lanes=0:=by
  refine Kj hf hl fun o b ho hb c e hc hd=>?_
  obtain⟨d1,d2,d3,d4⟩:=hd
  unfold QQ at d3
  rw [Bool.and_eq_true,beq_iff_eq,decide_eq_true_eq] at d3
  have p1:=JU (CF.2 hc)
  have p2:=JU (CF.2 d1)
  have p3:=(EJ (Cu y) c).1
  have p4:=(EJ (Cu y) e).1
  rw [FQ] at p1 p2
  have hne:BW (Cu y) c≠BW (Cu y) e:=fun hq=>by
    have:=JQ (CF.2 hc) (CF.2 d1) hq
    rw [this] at d3
    omega
  by_cases hlt:BW (Cu y) c<BW (Cu y) e
  · have:=h (BW (Cu y) e).toNat (BW (Cu y) c).toNat (by omega) (by omega) (by omega)
    rw [Ep d1,Ep hc] at this
    exact this d3.1.symm
  · have:=h (BW (Cu y) c).toNat (BW (Cu y) e).toNat (by omega) (by omega) (by omega)
    rw [Ep d1,Ep hc] at this
    exact this d3.1
theorem P4 {y:Ag} (hf:AN y=0) {lanes:List Int} (hl:AW y lanes=true) (hbr:y.broken=0) (h:∀ k j,0≤k→k<y.buses.length→j<k→(An y (BY y j)).hi<(An y (BY y k)).lo):AD y lanes=0:=by
  obtain⟨v1,v0,v2,v3,v4,v5,v6⟩:=BE hf
  refine Kj hf hl fun o b ho hb c e hc hd=>?_
  obtain⟨d1,d2,d3,d4⟩:=hd
  unfold QQ at d3
  rw [Bool.and_eq_true,beq_iff_eq,decide_eq_true_eq] at d3
  have hb0:b=[]:=List.eq_nil_of_length_eq_zero (by have:=(FK hb).2.2; omega)
  have ht:=(NS v6 d1 hc).2 (d4 (by rw [hb0]; simp [AE]))
  have p1:=JU (CF.2 hc)
  have p3:=(EJ (Cu y) c).1
  have p4:=(EJ (Cu y) e).1
  rw [FQ] at p1
  have:=h (BW (Cu y) c).toNat (BW (Cu y) e).toNat (by omega) (by omega) (by omega)
  rw [Ep d1,Ep hc] at this
  have:=NM ho hc d1 d3.2
  omega
theorem Sn {y:Ag} (hf:AN y=0) (by_:Int) (hx:AN (Ag.mk y.room (B8 y.buses.length (EO y by_)) y.broken)=0) :
    (∀ l,AW y l=true→AW (Ag.mk y.room (B8 y.buses.length (EO y by_)) y.broken) l=true∧AD (Ag.mk y.room (B8 y.buses.length (EO y by_)) y.broken) l=AD y l)∧DQ (Ag.mk y.room (B8 y.buses.length (EO y by_)) y.broken)=DQ y:=by
  obtain⟨v1,v0,v2,v3,v4,v5,v6⟩:=BE hf
  have hbl:(Ag.mk y.room (B8 y.buses.length (EO y by_)) y.broken).buses.length=y.buses.length:=DV _ _
  have hat:∀ b∈Ai y.buses.length,An (Ag.mk y.room (B8 y.buses.length (EO y by_)) y.broken) b=EO y by_ b:=fun b hb=>NR _ _ _ _ hb
  have hlb:∀ l,AW (Ag.mk y.room (B8 y.buses.length (EO y by_)) y.broken) l=AW y l:=fun l=>by
    unfold AW
    rw [hbl]
  have hturn:∀ a∈Ai y.buses.length,∀ b∈Ai y.buses.length,(AB (Ag.mk y.room (B8 y.buses.length (EO y by_)) y.broken) a<AB (Ag.mk y.room (B8 y.buses.length (EO y by_)) y.broken) b↔AB y a<AB y b):=fun a ha b hb=>by
    have h:=NS v6 ha hb
    have e1:AB (Ag.mk y.room (B8 y.buses.length (EO y by_)) y.broken) a=3*BW (Cu y) a+1:=by unfold AB; rw [hat a ha]; rfl
    have e2:AB (Ag.mk y.room (B8 y.buses.length (EO y by_)) y.broken) b=3*BW (Cu y) b+1:=by unfold AB; rw [hat b hb]; rfl
    rw [e1,e2,← h]
    omega
  have hw:∀ l,AW y l=true→AD (Ag.mk y.room (B8 y.buses.length (EO y by_)) y.broken) l=AD y l:=fun l hl=>by
    have hl':AW (Ag.mk y.room (B8 y.buses.length (EO y by_)) y.broken) l=true:=by rw [hlb]; exact hl
    have a1:=HU hx hf hbl hturn (fun o ho=>J6 hbl (fun a ha b hb h=>by
      rw [hat a ha,hat b hb] at h
      unfold EO at h
      simp only at h
      omega) ho) (fun b hb=>J7 hbl (Int.le_refl _) hb) hl' hl
    have a2:=HU hf hx hbl.symm (fun a ha b hb=>by rw [hbl] at ha hb; exact(hturn a ha b hb).symm) (fun o ho=>J6 hbl.symm (fun a ha b hb h=>by
      rw [hbl] at ha hb
      rw [hat a ha,hat b hb]
      unfold EO
      simp only
      omega) ho) (fun b hb=>J7 hbl.symm (Int.le_refl _) hb) hl hl'
    omega
  refine⟨fun l hl=>⟨by rw [hlb]; exact hl,hw l hl⟩,?_⟩
  unfold DQ
  have e:Fd (Ag.mk y.room (B8 y.buses.length (EO y by_)) y.broken)=Fd y:=by
    unfold Fd
    rw [hbl]
  rw [e]
  exact Kf _ _ fun l hl=>hw l (FA.1 hl)
theorem Ma (y:Ag) (words:List (IK .u16)) (hw:TR words) (by_:IK .u16) (hby:0≤by_.n∧by_.n≤65535):Ef 700 y words by_=some true:=by
  unfold Ef
  rw [Pm 700 y (by omega)]
  simp only [Option.bind_some,Mr]
  by_cases hf:AN y=0
  rotate_left
  · simp [hf]
  obtain⟨v1,v0,v2,v3,v4,v5,v6⟩:=BE hf
  rw [show(decide (y.room.length≤6) && decide (y.buses.length≤12) && decide (AN y=0))=true by
    rw [decide_eq_true hf,decide_eq_true (show y.room.length≤6 by omega),decide_eq_true (show y.buses.length≤12 by omega)]; rfl]
  obtain⟨lanes,is,e1,e2,e3⟩:=L7 700 v0 v4 (by omega) (by omega) hw (by omega)
  rw [cond_true,e1]
  simp only [Option.bind_some]
  cases is with
  | false=>simp
  | true =>
    obtain⟨l1,l2⟩:=e2 rfl
    simp only [Bool.not_true,cond_false]
    obtain⟨o,br,w1,_,_,_⟩:=Kg 700 hf l1 (by omega)
    have n1:=Ja v2 v5 by_ hby 700 0 (by omega) (by omega)
    rw [show(B8 y.buses.length fun x=>if BW (Cu y) x<((0:Nat):Int) then EO y by_.n x else An y x)=y.buses by
      conv=>rhs; rw [GI y]
      refine HV fun x _=>?_
      have:=(EJ (Cu y) x).1
      rw [if_neg (by omega)],show((0:Nat):Int)=0 from rfl] at n1
    rw [FH _ _ (by simp; omega),List.nil_append,Option.bind_some,O5 700 y [] (by omega) (by simp) (by omega),Option.bind_some,show AX y (AE [])=Cu y from rfl,n1,Option.bind_some,Gr 700 y (by omega) (by omega) (by omega),Option.bind_some,Gq 700 lanes (by omega),Option.bind_some,w1,Option.bind_some]
    simp only [bne_self_eq_false,cond_false]
    obtain⟨s',a',g1,g2,g3⟩:=Jc v2 l2 700 0 (y.broken == 0) true (by omega) (by omega)
    rw [show((0:Nat):Int)=0 from rfl] at g1
    have fin:∀ r:Option Bool,r=some true→((bif (!a') then(bif (!s') then r else(bif (AD y lanes == 0) then r else some false)) else(bif (AD y lanes == 0) then r else some false)):Option Bool)=some true:=fun r hr=>by
      cases a' with
      | true =>
        rw [Q3 hf l1 (g2 rfl).2,hr]
        rfl
      | false =>
        cases s' with
        | true =>
          obtain⟨q1,q2⟩:=g3 rfl
          rw [P4 hf l1 (by simpa using q1) q2,hr]
          rfl
        | false=>rw [hr]; rfl
    have hxl:(B8 y.buses.length (EO y by_.n)).length=y.buses.length:=DV _ _
    rw [Pc 700 (Ag.mk y.room (B8 y.buses.length (EO y by_.n)) y.broken) (by simp only; omega) (by simp only; omega) (by simp only; omega) (by simp only; omega),Option.bind_some]
    by_cases hx:AN (Ag.mk y.room (B8 y.buses.length (EO y by_.n)) y.broken)=0
    · obtain⟨m1,m2⟩:=Sn hf by_.n hx
      obtain⟨r1,r2⟩:=m1 lanes l1
      obtain⟨o2,br2,w2,_,_,_⟩:=Kg 700 hx r1 (by omega)
      rw [show(AN (Ag.mk y.room (B8 y.buses.length (EO y by_.n)) y.broken) == 0)=true by rw [hx]; rfl,cond_true]
      rw [Gr 700 (Ag.mk y.room (B8 y.buses.length (EO y by_.n)) y.broken) (by simp only; omega) (by simp only; omega) (by simp only; omega),Option.bind_some,Option.bind_some,w2,Option.bind_some,Option.bind_some,Ml 700 hf (by omega),Option.bind_some,Option.bind_some,Ml 700 hx (by omega),Option.bind_some,m2]
      cases hb:DQ y with
      | none =>
        have:=L8 hb lanes
        rw [l1] at this
        cases this
      | some q =>
        obtain⟨b,m⟩:=q
        have hbl:=(FM (Gw hb).1).1
        rw [r2]
        simp only [bne_self_eq_false,cond_false]
        rw [R0 700 b (by omega) (by omega)]
        simp only [Option.bind_some,Bool.not_true,cond_false]
        rw [g1,Option.bind_some]
        exact fin _ rfl
    · rw [show(AN (Ag.mk y.room (B8 y.buses.length (EO y by_.n)) y.broken) == 0)=false by simp [hx],cond_false,Je,g1,Option.bind_some]
      exact fin _ rfl
end Go.Proofs.Ythcbemnflgjadaa
