/- The plain law. -/
import Derived.Test.YthcbemnflgjadaaMmP0
import Derived.KernelRfl
set_option linter.all false
namespace Go.Proofs.Ythcbemnflgjadaa
open Go Go.RowKit
theorem It {x:Int} (h0 : -9223372036854775808≤x) (h1:x≤9223372036854775807):IntKind.i64.wrap x=x:=by
  simp [IntKind.wrap,IntKind.bits,IntKind.signed]; omega
theorem Dq (i:Nat) (h:i<1000000000000):IntKind.i64.wrap ((i:Int)+1)=((i+1:Nat):Int):=by
  rw [It (by omega) (by omega)]; omega
theorem R6 {α:Type} (xs:List α) (i:Nat):Ba xs (i:Int)=xs[i]?:=rfl
theorem BY {α:Type} (xs:List α) (i:Nat) (h:i<xs.length):Ba xs (i:Int)=some xs[i]:=by rw [R6,List.getElem?_eq_getElem h]
theorem EU {α:Type} (xs ys:List α) (h:xs.length+ys.length≤1000000000):Ji xs ys=some (xs++ys):=by
  unfold Ji; rw [if_pos (by simpa using h)]
theorem So {α:Type} (xs:List α) (i:Nat) (y:α) (h:i<xs.length):upd xs (i:Int) y=some (xs.set i y):=by
  show(if i<xs.length then some (xs.set i y) else none)=_
  rw [if_pos h]
theorem SD {α:Type} (n:Nat) (x:α) (h:n≤1000000000):mk (n:Int) x=some (List.replicate n x):=by
  unfold mk; rw [if_pos (by omega)]; rfl
theorem Bg {α:Type} {xs:List α} {i:Nat} (h:i<xs.length):xs.drop i=xs[i]::xs.drop (i+1):=List.drop_eq_getElem_cons h
theorem Bs {α:Type} (xs:List α) (i:Nat):decide ((i:Int)<((xs.length:Nat):Int))=decide (i<xs.length):=by
  by_cases h:i<xs.length <;> simp [h]
theorem Nc {K α:Type} [DecidableEq K] (k j:K) (x:α):∀ l:List (K×α),Ef (H0 l k x) j=if k=j then some x else Ef l j
  | []=>by simp [H0,Ef]
  | p::r=>by
    unfold H0
    by_cases h:p.1=k
    · rw [if_pos h]
      simp only [Ef]
      by_cases hj:k=j
      · simp [hj]
      · simp [hj,h]
    · rw [if_neg h,Ef,Ef,Nc k j x r]
      by_cases hj:p.1=j
      · have:k≠j:=fun e=>h (by rw [hj,e])
        simp [hj,this]
      · simp [hj]
theorem Nd {α β:Type} {x:Option α} {v:α} {f:α→Option β} (h:x=some v):x.bind f=f v:=by rw [h]; rfl
theorem NG (l:List Int):(E9 l).Pairwise (·≤·):=by
  have:=List.pairwise_mergeSort (le:=fun x y:Int=>decide (x≤y)) (fun a b c h1 h2=>by simp at *; omega) (fun a b=>by simp; omega) l
  exact this.imp fun h=>by simpa using h
theorem QL {l l':List Int} (hp:l.Perm l') (hs:l'.Pairwise (·≤·)):E9 l=l' :=
  List.Perm.eq_of_pairwise (le:=(·≤·)) (fun _ _ _ _ h1 h2=>Int.le_antisymm h1 h2) (NG l) hs ((List.mergeSort_perm l _).trans hp)
theorem Oz {l l':List Int} (hp:l.Perm l') (hs:l'.Pairwise (·≤·)) (hl:l.length≤1000000):Mu l=some l':=by
  unfold Mu
  rw [if_pos (by omega),QL hp hs]
def P2:Aj:=⟨[2,2],[⟨100,120,40⟩,⟨110,130,20⟩,⟨125,140,30⟩,⟨150,160,10⟩],0⟩
def QM:BE:=⟨P2,[0,0,1,1],⟨0,1,2,3,0,0,0,0⟩,⟨false,false,false,false,false,false,false,false⟩⟩
theorem Sp:Cy 700 P2 [0,0,1,1] [0,1,2,3] []=some ([0,2],0):=by
  unfold Cy
  refine(Nd (v:=(QM,0)) (by kernel_rfl)).trans ?_
  show((Bv 700 QM).bind fun x25=>(Bq 700 x25).bind fun x26=>(Mu x26).bind fun u_80=>some (u_80,0))=_
  refine(Nd (v:=[[2],[0],[],[]]) (by kernel_rfl)).trans ?_
  refine(Nd (v:=[2,0]) (by kernel_rfl)).trans ?_
  exact Nd (Oz (by decide) (by decide) (by decide))
theorem L7:DD 700=some true:=by
  unfold DD
  refine(Nd (v:=P2) rfl).trans ?_
  refine(Nd Sp).trans ?_
  kernel_rfl
theorem CH (n:Nat) (l:List Int) (h:l.length≤1000):CW n l=some l:=by
  unfold CW
  simp [EU [] l (by simp; omega)]
theorem QN (n:Nat) (l:List Int) (h:l.length≤1000):Bh n l=some l:=by
  unfold Bh
  simp [EU [] l (by simp; omega)]
theorem H6 (y:Aj) (hb:y.buses.length≤1000):∀ (n i:Nat)(acc:List B5),y.buses.length<n+i→i≤y.buses.length→acc.length=i→D0 n y acc (i:Int)=some (acc++y.buses.drop i)
  | 0,i,acc,h,hi,_=>by omega
  | n+1,i,acc,h,hi,ha=>by
    rw [D0,Bs]
    by_cases hx:i<y.buses.length
    · simp only [hx,decide_true,cond_true,BY _ _ hx,Option.bind_some]
      rw [EU _ _ (by simp; omega)]
      simp only [Option.bind_some]
      rw [Dq i (by omega),H6 y hb n (i+1) _ (by omega) (by omega) (by simp; omega),Bg hx,List.append_assoc]
      rfl
    · have:i=y.buses.length:=by omega
      simp [this]
theorem H7 (n:Nat) (y:Aj) (hr:y.room.length≤1000) (hb:y.buses.length≤1000) (hn:y.buses.length<n):FC n y=some y:=by
  unfold FC
  have e1:=H6 y hb n 0 [] (by omega) (by omega) rfl
  rw [show((0:Nat):Int)=0 from rfl] at e1
  rw [CH n _ hr,Option.bind_some,e1]
  simp
def EQ (x lo hi:Int):Bool:=decide (lo≤x) && decide (x≤hi)
theorem C8 {x lo hi:Int}:EQ x lo hi=true↔lo≤x∧x≤hi:=by simp [EQ]
theorem F6 (n:Nat) (x lo hi:Int):FD n x lo hi=some (EQ x lo hi):=by
  unfold FD EQ
  rw [show decide (x≥lo)=decide (lo≤x) from rfl]
  cases decide (lo≤x) <;> rfl
theorem Gy (n:Nat) (x lo hi:Int):Cd n x lo hi=some (EQ x lo hi):=by
  unfold Cd EQ
  cases decide (lo≤x) <;> rfl
def Ds (b:B5):Bool:=EQ b.lo 0 b.hi && (decide (b.hi≤2000) && EQ b.turn 0 2000)
theorem QO (n:Nat) (b:B5):BL n b=some (Ds b):=by
  unfold BL Ds
  simp only [Gy,Option.bind_some]
  cases EQ b.lo 0 b.hi <;> cases decide (b.hi≤2000) <;> rfl
theorem K8 (s:List Int) (f:Int→Option Bool) (g:Int→Bool) (hf:∀ c∈s,f c=some (g c)) (hs:s.length≤1000000):∀ (n i:Nat),s.length<n+i→i≤s.length →
    ∃ r,AH n s f (i:Int)=some r∧(if (s.drop i).any g then ∃ k:Int,0≤k∧r=Ex.ret k else r=Ex.go ())
  | 0,i,h,hi=>by omega
  | n+1,i,h,hi=>by
    rw [AH,Bs]
    by_cases hx:i<s.length
    · simp only [hx,decide_true,cond_true,BY _ _ hx,Option.bind_some,hf _ (List.getElem_mem hx)]
      rw [Dq i (by omega),Bg hx,List.any_cons]
      cases hv:g s[i] with
      | true=>exact⟨Ex.ret (i:Int),rfl,⟨i,by omega,rfl⟩⟩
      | false =>
        obtain⟨r,h1,h2⟩:=K8 s f g hf hs n (i+1) (by omega) (by omega)
        exact⟨r,h1,by rw [Bool.false_or]; exact h2⟩
    · have:i=s.length:=by omega
      subst this
      exact⟨Ex.go (),by simp,by simp⟩
theorem P3 (n:Nat) (l:List Int) (f:Int→Option Bool) (g:Int→Bool) (hf:∀ c∈l,f c=some (g c)) (h:l.length<n) (hs:l.length≤1000000):DB n l f=some (l.all g):=by
  unfold DB B3 BJ
  obtain⟨r,h1,h2⟩:=K8 l (fun y0=>Ci n y0 f) (fun c=>!g c) (fun c hc=>by unfold Ci; rw [hf c hc]; rfl) hs n 0 (by omega) (by omega)
  rw [show((0:Nat):Int)=0 from rfl] at h1
  rw [h1]
  simp only [List.drop_zero] at h2
  have hn:l.all g=!l.any fun c=>!g c:=by
    rw [List.not_any_eq_all_not]; simp
  rw [hn]
  split at h2
  · rename_i hm
    obtain⟨k,hk,rfl⟩:=h2
    simp [Ex.bind,hm,hk]
  · rename_i hm
    subst h2
    simp [Ex.bind,hm]
theorem K9 (s:List B5) (f:B5→Option Bool) (g:B5→Bool) (hf:∀ c∈s,f c=some (g c)) (hs:s.length≤1000000):∀ (n i:Nat),s.length<n+i→i≤s.length →
    ∃ r,A4 n s f (i:Int)=some r∧(if (s.drop i).any g then ∃ k:Int,0≤k∧r=Ex.ret k else r=Ex.go ())
  | 0,i,h,hi=>by omega
  | n+1,i,h,hi=>by
    rw [A4,Bs]
    by_cases hx:i<s.length
    · simp only [hx,decide_true,cond_true,BY _ _ hx,Option.bind_some,hf _ (List.getElem_mem hx)]
      rw [Dq i (by omega),Bg hx,List.any_cons]
      cases hv:g s[i] with
      | true=>exact⟨Ex.ret (i:Int),rfl,⟨i,by omega,rfl⟩⟩
      | false =>
        obtain⟨r,h1,h2⟩:=K9 s f g hf hs n (i+1) (by omega) (by omega)
        exact⟨r,h1,by rw [Bool.false_or]; exact h2⟩
    · have:i=s.length:=by omega
      subst this
      exact⟨Ex.go (),by simp,by simp⟩
theorem P4 (n:Nat) (l:List B5) (f:B5→Option Bool) (g:B5→Bool) (hf:∀ c∈l,f c=some (g c)) (h:l.length<n) (hs:l.length≤1000000):BQ n l f=some (l.all g):=by
  unfold BQ AP AV
  obtain⟨r,h1,h2⟩:=K9 l (fun y0=>Bn n y0 f) (fun c=>!g c) (fun c hc=>by unfold Bn; rw [hf c hc]; rfl) hs n 0 (by omega) (by omega)
  rw [show((0:Nat):Int)=0 from rfl] at h1
  rw [h1]
  simp only [List.drop_zero] at h2
  have hn:l.all g=!l.any fun c=>!g c:=by
    rw [List.not_any_eq_all_not]; simp
  rw [hn]
  split at h2
  · rename_i hm
    obtain⟨k,hk,rfl⟩:=h2
    simp [Ex.bind,hm,hk]
  · rename_i hm
    subst h2
    simp [Ex.bind,hm]
def Gr:List Int→List Int→Bool
  | _,[]=>false
  | s,t::r=>s.contains t || Gr (s++[t]) r
theorem KA (y:Aj) (hb:y.buses.length≤1000):∀ (n i:Nat)(m:List (Int×Bool))(s:List Int),y.buses.length<n+i→i≤y.buses.length→(∀ t,(Gh m t false).1=s.contains t) →
    ∃ r,Bt n y (i:Int) m=some r∧(if Gr s ((y.buses.drop i).map (·.turn)) then r=Ex.ret 1 else ∃ m',r=Ex.go m')
  | 0,i,m,s,h,hi,_=>by omega
  | n+1,i,m,s,h,hi,hm=>by
    rw [Bt,Bs]
    by_cases hx:i<y.buses.length
    · simp only [hx,decide_true,cond_true,BY _ _ hx,Option.bind_some,hm]
      rw [Dq i (by omega),Bg hx,List.map_cons,Gr]
      cases hv:s.contains y.buses[i].turn with
      | true=>exact⟨_,rfl,rfl⟩
      | false =>
        simp only [cond_false,Bool.false_or]
        refine KA y hb n (i+1) _ (s++[y.buses[i].turn]) (by omega) (by omega) fun t=>?_
        have:=hm t
        unfold Gh at this ⊢
        rw [Nc]
        by_cases ht:y.buses[i].turn=t
        · simp [ht]
        · rw [if_neg ht,this]
          simp [Ne.symm ht]
    · have:i=y.buses.length:=by omega
      subst this
      exact⟨Ex.go m,by simp,by simp [Gr]⟩
def B2 (y:Aj):Int :=
  if 3<y.room.length∨8<y.buses.length then 3
  else if y.room.length=0∨EQ y.broken 0 2=false∨(y.room.all fun r=>EQ r 0 8)=false∨y.buses.all Ds=false∨Gr [] (y.buses.map (·.turn))=true then 1 else 0
theorem QP (n:Nat) (y:Aj) (hr:y.room.length≤1000) (hb:y.buses.length≤1000) (h1:y.room.length<n) (h2:y.buses.length<n):BU n y=some (B2 y):=by
  unfold BU B2
  have e1:DB n y.room (fun y0=>B7 n y0)=some (y.room.all fun r=>EQ r 0 8):=P3 n _ _ _ (fun c _=>by unfold B7; rw [Gy]; rfl) h1 (by omega)
  have e2:BQ n y.buses (fun y0=>BL n y0)=some (y.buses.all Ds):=P4 n _ _ _ (fun c _=>QO n c) h2 (by omega)
  obtain⟨r,e3,e4⟩:=KA y hb n 0 [] [] (by omega) (by omega) (fun t=>by simp [Gh,Ef])
  rw [show((0:Nat):Int)=0 from rfl] at e3
  rw [List.drop_zero] at e4
  have c1:decide (((y.room.length:Nat):Int)>3)=decide (3<y.room.length):=by by_cases h:3<y.room.length <;> simp [h] <;> omega
  have c2:decide (((y.buses.length:Nat):Int)>8)=decide (8<y.buses.length):=by by_cases h:8<y.buses.length <;> simp [h] <;> omega
  have c3:(((y.room.length:Nat):Int) == 0)=decide (y.room.length=0):=by by_cases h:y.room.length=0 <;> simp [h]
  rw [c1,c2,c3]
  by_cases a1:3<y.room.length
  · simp [a1]
  by_cases a2:8<y.buses.length
  · simp [a1,a2]
  simp only [a1,a2,decide_false,cond_false,Option.bind_some,or_self,if_false]
  by_cases a3:y.room.length=0
  · simp [a3]
  simp only [a3,decide_false,cond_false,Gy,Option.bind_some,false_or,e1,e2]
  cases a4:EQ y.broken 0 2 with
  | false=>simp
  | true =>
  cases a5:(y.room.all fun r=>EQ r 0 8) with
  | false=>simp
  | true =>
  cases a6:y.buses.all Ds with
  | false=>simp
  | true =>
  simp only [Bool.not_true,cond_false,Option.bind_some,e3]
  cases a7:Gr [] (y.buses.map (·.turn)) with
  | true =>
    rw [a7] at e4
    simp only [if_true] at e4
    subst e4
    simp [Ex.bind]
  | false =>
    rw [a7] at e4
    obtain⟨m',rfl⟩:=e4
    simp [Ex.bind]
theorem KB (y:Aj) (hb:y.room.length≤1000):∀ (n i:Nat),y.room.length<n+i→i≤y.room.length →
    CO n y (i:Int)=some (if (y.room.drop i).all (fun r=>EQ r 0 8) then Ex.go () else Ex.ret 1)
  | 0,i,h,hi=>by omega
  | n+1,i,h,hi=>by
    rw [CO,Bs]
    by_cases hx:i<y.room.length
    · simp only [hx,decide_true,cond_true,BY _ _ hx,Option.bind_some,F6]
      rw [Dq i (by omega),Bg hx,List.all_cons]
      cases hv:EQ y.room[i] 0 8 with
      | false=>simp
      | true=>simpa using KB y hb n (i+1) (by omega) (by omega)
    · have:i=y.room.length:=by omega
      subst this
      simp
theorem KC (y:Aj) (hb:y.buses.length≤1000) (k:Nat) (b:B5) (hk:k≤y.buses.length):∀ (n i:Nat),k<n+i→i≤k →
    CP n y (k:Int) b (i:Int)=some (if (((y.buses.take k).drop i).map (·.turn)).contains b.turn then Ex.ret 1 else Ex.go ())
  | 0,i,h,hi=>by omega
  | n+1,i,h,hi=>by
    rw [CP]
    by_cases hx:i<k
    · have hx':i<(y.buses.take k).length:=by rw [List.length_take]; omega
      have hl:i<y.buses.length:=by omega
      simp only [show decide ((i:Int)<(k:Int))=true by simp; omega,cond_true,BY _ _ hl,Option.bind_some]
      rw [Dq i (by omega),Bg hx',List.map_cons,List.contains_cons,List.getElem_take]
      cases hv:(y.buses[i].turn == b.turn) with
      | true =>
        have:(b.turn == y.buses[i].turn)=true:=by rw [beq_iff_eq] at hv ⊢; exact hv.symm
        simp [this]
      | false =>
        have:(b.turn == y.buses[i].turn)=false:=by
          cases hq:(b.turn == y.buses[i].turn) with
          | false=>rfl
          | true=>rw [beq_iff_eq] at hq; rw [hq] at hv; simp at hv
        rw [this,Bool.false_or]
        simpa using KC y hb k b hk n (i+1) (by omega) (by omega)
    · have:i=k:=by omega
      subst this
      simp
theorem KD (y:Aj) (hb:y.buses.length≤500):∀ (n i:Nat),2*y.buses.length<n+i→i≤y.buses.length →
    CQ n y (i:Int)=some (if (y.buses.drop i).all Ds=false∨Gr ((y.buses.take i).map (·.turn)) ((y.buses.drop i).map (·.turn))=true then Ex.ret 1 else Ex.go ())
  | 0,i,h,hi=>by omega
  | n+1,i,h,hi=>by
    rw [CQ,Bs]
    by_cases hx:i<y.buses.length
    · simp only [hx,decide_true,cond_true,BY _ _ hx,Option.bind_some,F6]
      have e1:=KC y (by omega) i y.buses[i] (by omega) n 0 (by omega) (by omega)
      rw [show((0:Nat):Int)=0 from rfl] at e1
      have e2:=KD y hb n (i+1) (by omega) (by omega)
      rw [Dq i (by omega),e1,e2,Bg hx,List.all_cons,List.map_cons,Gr,List.drop_zero]
      have e3:(y.buses.take (i+1)).map (·.turn)=(y.buses.take i).map (·.turn)++[y.buses[i].turn]:=by
        rw [List.take_succ_eq_append_getElem hx,List.map_append]; rfl
      rw [e3]
      have e4:decide (y.buses[i].hi>2000)=!decide (y.buses[i].hi≤2000):=by
        by_cases hq:y.buses[i].hi≤2000
        · simp [hq,Int.not_lt.2 hq]
        · simp [hq]; omega
      rw [e4]
      unfold Ds
      cases EQ y.buses[i].lo 0 y.buses[i].hi <;> cases decide (y.buses[i].hi≤2000) <;> cases EQ y.buses[i].turn 0 2000 <;> cases ((y.buses.take i).map (·.turn)).contains y.buses[i].turn <;> simp [Ex.bind,Ds]
    · have:i=y.buses.length:=by omega
      subst this
      simp [Gr]
theorem O0 (n:Nat) (y:Aj) (hr:y.room.length≤100) (hb:y.buses.length≤100) (h1:y.room.length<n) (h2:2*y.buses.length<n):F7 n y=some (B2 y):=by
  unfold F7 B2
  have e1:=KB y (by omega) n 0 (by omega) (by omega)
  have e2:=KD y (by omega) n 0 (by omega) (by omega)
  rw [show((0:Nat):Int)=0 from rfl] at e1 e2
  simp only [List.drop_zero,List.take_zero,List.map_nil] at e1 e2
  have c1:decide (((y.room.length:Nat):Int)>3)=decide (3<y.room.length):=by by_cases h:3<y.room.length <;> simp [h] <;> omega
  have c2:decide (((y.buses.length:Nat):Int)>8)=decide (8<y.buses.length):=by by_cases h:8<y.buses.length <;> simp [h] <;> omega
  have c3:decide (((y.room.length:Nat):Int)<1)=decide (y.room.length=0):=by by_cases h:y.room.length=0 <;> simp [h] <;> omega
  rw [c1,c2,c3,e1,e2]
  by_cases a1:3<y.room.length
  · simp [a1]
  by_cases a2:8<y.buses.length
  · simp [a1,a2]
  simp only [a1,a2,decide_false,cond_false,Option.bind_some,or_self,if_false]
  by_cases a3:y.room.length=0
  · simp [a3]
  simp only [a3,decide_false,cond_false,F6,Option.bind_some,false_or]
  cases a4:EQ y.broken 0 2 <;> cases a5:(y.room.all fun r=>EQ r 0 8) <;> cases a6:y.buses.all Ds <;> cases a7:Gr [] (y.buses.map (·.turn)) <;> simp [Ex.bind]
theorem PX (n:Nat) (y:Aj):G3 n y=some (decide (y.room.length≤6) && decide (y.buses.length≤12)):=by
  unfold G3
  by_cases h1:y.room.length≤6 <;> by_cases h2:y.buses.length≤12
  all_goals
    have e1:decide (((y.room.length:Nat):Int)≤6)=decide (y.room.length≤6):=by simp; omega
    have e2:decide (((y.buses.length:Nat):Int)≤12)=decide (y.buses.length≤12):=by simp; omega
    rw [e1,e2]
    simp [h1,h2]
end Go.Proofs.Ythcbemnflgjadaa
namespace Go.Proofs.Ythcbemnflgjadaa
open Go Go.RowKit
def A9 (y:Aj) (b:Int):B5:=y.buses.getD b.toNat default
theorem Gc (y:Aj) {b:Int} (h:EQ b 0 ((y.buses.length:Int)-1)=true):Ba y.buses b=some (A9 y b):=by
  rw [C8] at h
  obtain⟨k,rfl⟩:=Int.eq_ofNat_of_zero_le h.1
  rw [BY _ _ (by omega)]
  unfold A9
  simp [List.getD_eq_getElem?_getD,List.getElem?_eq_getElem (show k<y.buses.length by omega)]
theorem H8 {y:Aj} (hv:y.buses.all Ds=true) {b:Int} (h:EQ b 0 ((y.buses.length:Int)-1)=true):0≤(A9 y b).lo∧(A9 y b).lo≤(A9 y b).hi∧(A9 y b).hi≤2000∧0≤(A9 y b).turn∧(A9 y b).turn≤2000:=by
  rw [C8] at h
  have hl:b.toNat<y.buses.length:=by omega
  have:Ds (A9 y b)=true:=by
    unfold A9
    rw [List.getD_eq_getElem?_getD,List.getElem?_eq_getElem hl]
    exact List.all_eq_true.1 hv _ (List.getElem_mem hl)
  unfold Ds at this
  simp only [Bool.and_eq_true,C8,decide_eq_true_eq] at this
  omega
theorem KE (n:Nat) (y:Aj) (b:Int) (h:y.buses.length≤1000):CZ n y b=some (EQ b 0 ((y.buses.length:Int)-1)):=by
  unfold CZ
  rw [It (by omega) (by omega),Gy]
  rfl
theorem R7 (n:Nat) (a b:Int):CI (n+2) [a,b]=some (max a b):=by
  have e1:IntKind.i64.wrap 2=2:=by decide
  by_cases h:a<b
  · have:max a b=b:=by omega
    simp [CI,Cj,Bc,Ba,e1,h,this]
  · have:max a b=a:=by omega
    simp [CI,Cj,Bc,Ba,e1,h,this]
theorem NH {b:Int} (h0:0≤b) (h8:b<8):JO 8 b=some ():=by
  unfold JO; rw [if_pos ⟨h0,h8⟩]
theorem PY {b:Int} (h0:0≤b) (h8:b<8):b=0∨b=1∨b=2∨b=3∨b=4∨b=5∨b=6∨b=7:=by omega
def Bm (f:Int→Bool):As:=⟨f 0,f 1,f 2,f 3,f 4,f 5,f 6,f 7⟩
def Gz (f:Int→Int):Ao:=⟨f 0,f 1,f 2,f 3,f 4,f 5,f 6,f 7⟩
theorem L8 (f:Int→Bool) {b:Int} (h0:0≤b) (h8:b<8):Ba (Bm f).toL b=some (f b):=by
  rcases PY h0 h8 with h | h | h | h | h | h | h | h <;> subst h <;> rfl
theorem Lx (f:Int→Int) {b:Int} (h0:0≤b) (h8:b<8):Ba (Gz f).toL b=some (f b):=by
  rcases PY h0 h8 with h | h | h | h | h | h | h | h <;> subst h <;> rfl
theorem Js (f:Int→Bool) {b:Int} (h0:0≤b) (h8:b<8) (v:Bool):As.setI (Bm f) b v=some (Bm fun x=>if x=b then v else f x):=by
  rcases PY h0 h8 with h | h | h | h | h | h | h | h <;> subst h <;> rfl
theorem R8 (f:Int→Int) {b:Int} (h0:0≤b) (h8:b<8) (v:Int):Ao.setI (Gz f) b v=some (Gz fun x=>if x=b then v else f x):=by
  rcases PY h0 h8 with h | h | h | h | h | h | h | h <;> subst h <;> rfl
theorem Em {f g:Int→Bool} (h:∀ b,f b=g b):Bm f=Bm g:=by rw [funext h]
theorem O1 {f g:Int→Int} (h:∀ b,f b=g b):Gz f=Gz g:=by rw [funext h]
def Bl (l:List Int) (b:Int):Bool:=l.contains b
def CF (l:List Int) (b:Int):Int:=if l.contains b then(l.idxOf b:Int) else 0
theorem Ki (l:List Int) (c b:Int):Bl (l++[c]) b=if b=c then true else Bl l b:=by
  unfold Bl
  by_cases h:b=c
  · subst h; simp
  · simp [h]
theorem Qu (l:List Int) (c:Int) (hc:l.contains c=false) (b:Int):CF (l++[c]) b=if b=c then(l.length:Int) else CF l b:=by
  unfold CF
  by_cases h:b=c
  · subst h
    have hm:b ∉ l:=by simpa using hc
    simp [List.idxOf_append,hm]
  · by_cases hb:b∈l
    · simp [h,hb,List.idxOf_append]
    · simp [h,hb]
def L9 (y:Aj) (l:List Int):Int:=l.foldl (fun m b=>max m (A9 y b).lo) 0
theorem P5 (y:Aj) (l:List Int) (b:Int):L9 y (l++[b])=max (L9 y l) (A9 y b).lo:=by
  unfold L9; rw [List.foldl_append]; rfl
theorem QQ (y:Aj) (x:Int) (hx:0≤x) (l:List Int):decide (x<L9 y l)=l.any fun k=>decide (x<(A9 y k).lo):=by
  have key:∀ (l:List Int)(m:Int),decide (x<l.foldl (fun m b=>max m (A9 y b).lo) m)=(decide (x<m) || l.any fun k=>decide (x<(A9 y k).lo)):=by
    intro l
    induction l with
    | nil=>intro m; exact(Bool.or_false _).symm
    | cons a r ih =>
      intro m
      rw [List.foldl_cons,ih,List.any_cons,← Bool.or_assoc]
      congr 1
      by_cases h1:x<m <;> by_cases h2:x<(A9 y a).lo <;> simp [h1,h2] <;> omega
  unfold L9
  rw [key]
  simp [Int.not_lt.2 hx]
def Nf (y:Aj) (pre:List Int) (b:Int):Bool:=EQ b 0 ((y.buses.length:Int)-1) && !(pre.contains b || pre.any fun k=>decide ((A9 y b).hi<(A9 y k).lo))
def F8 (y:Aj):List Int→List Int→Bool
  | _,[]=>true
  | pre,b::r=>Nf y pre b && F8 y (pre++[b]) r
def F9 (y:Aj) (order:List Int):Bool:=decide (order.length=y.buses.length) && F8 y [] order
theorem H9 (y:Aj) (hb:y.buses.length≤8) (hv:y.buses.all Ds=true) (order:List Int) (ho:order.length≤1000):∀ (n i:Nat),order.length+2<n+i→i≤order.length →
    ∃ r,Bd n y order (i:Int) (L9 y (order.take i)) (Gz (CF (order.take i))) (Bm (Bl (order.take i)))=some r ∧
      (if F8 y (order.take i) (order.drop i) then r=Ex.go (Gz (CF order),Bm (Bl order)) else ∃ x,r=Ex.ret (x,false))
  | 0,i,h,hi=>by omega
  | n+1,i,h,hi=>by
    rw [Bd,Bs]
    by_cases hx:i<order.length
    · obtain⟨n,rfl⟩:∃ m,n=m+2:=⟨n-2,by omega⟩
      simp only [hx,decide_true,cond_true,BY _ _ hx,Option.bind_some,KE _ y _ (by omega)]
      rw [Bg hx,F8]
      unfold Nf
      cases h1:EQ order[i] 0 ((y.buses.length:Int)-1) with
      | false=>exact⟨_,rfl,by simp⟩
      | true =>
        have h1':=C8.1 h1
        have h8:order[i]<8:=by omega
        simp only [Bool.not_true,cond_false,NH h1'.1 h8,Option.bind_some,L8 _ h1'.1 h8,Gc y h1]
        cases h2:Bl (order.take i) order[i] with
        | true =>
          have h2':(order.take i).contains order[i]=true:=h2
          exact⟨_,rfl,by rw [h2']; simp⟩
        | false =>
          have h2':(order.take i).contains order[i]=false:=h2
          simp only [cond_false,Option.bind_some,QQ y _ (show 0≤(A9 y order[i]).hi by have:=H8 hv h1; omega)]
          cases h3:(order.take i).any fun k=>decide ((A9 y order[i]).hi<(A9 y k).lo) with
          | true=>exact⟨_,rfl,by rw [h2']; simp⟩
          | false =>
            simp only [cond_false,Js _ h1'.1 h8,Option.bind_some,R7,R8 _ h1'.1 h8]
            rw [Dq i (by omega),← P5]
            have e1:order.take i++[order[i]]=order.take (i+1):=(List.take_succ_eq_append_getElem hx).symm
            have e2:(Bm fun x=>if x=order[i] then true else Bl (order.take i) x)=Bm (Bl (order.take (i+1))):=Em fun b=>by rw [← e1,Ki]
            have e3:(Gz fun x=>if x=order[i] then(i:Int) else CF (order.take i) x)=Gz (CF (order.take (i+1))):=O1 fun b=>by
              rw [← e1,Qu _ _ h2',List.length_take,Nat.min_eq_left (Nat.le_of_lt hx)]
            rw [e1,e2,e3,h2']
            simp only [Bool.or_self,Bool.not_false,Bool.and_self,Bool.true_and]
            exact H9 y hb hv order ho (n+2) (i+1) (by omega) (by omega)
    · have:i=order.length:=by omega
      subst this
      simp [F8]
theorem RQ:(Ao.mk 0 0 0 0 0 0 0 0)=Gz (CF []):=rfl
theorem RR:(As.mk false false false false false false false false)=Bm (Bl []):=rfl
theorem O2 (n:Nat) (y:Aj) (hb:y.buses.length≤8) (hv:y.buses.all Ds=true) (order:List Int) (ho:order.length≤1000) (hn:order.length+2<n) :
    ∃ x,Ck n y order=some (x,F9 y order)∧(F9 y order=true→x=Gz (CF order)):=by
  unfold Ck F9
  by_cases hl:order.length=y.buses.length
  · obtain⟨r,h1,h2⟩:=H9 y hb hv order ho n 0 (by omega) (by omega)
    rw [show((0:Nat):Int)=0 from rfl] at h1
    simp only [List.take_zero,List.drop_zero] at h1 h2
    have e0:L9 y []=0:=rfl
    rw [e0] at h1
    rw [RQ,RR,h1]
    rw [show((order.length:Int) != (y.buses.length:Int))=false by simp [hl]]
    simp only [cond_false,Option.bind_some,hl,decide_true,Bool.true_and]
    split at h2
    · rename_i hp
      subst h2
      exact⟨_,by rw [hp]; rfl,fun _=>rfl⟩
    · rename_i hp
      obtain⟨x,rfl⟩:=h2
      exact⟨x,by simp [Ex.bind,hp],fun h=>absurd h hp⟩
  · rw [show((order.length:Int) != (y.buses.length:Int))=true by simp; omega]
    simp only [cond_true]
    exact⟨Gz (CF []),by rw [RQ]; simp [hl],fun h=>by simp [hl] at h⟩
theorem Ng (l:List Int) (x:Int) (hl:l.length≤1000):∀ (n i:Nat),l.length<n+i→i≤l.length→Ea n l x (i:Int)=some (if (l.drop i).contains x then Ex.ret true else Ex.go ())
  | 0,i,h,hi=>by omega
  | n+1,i,h,hi=>by
    rw [Ea,Bs]
    by_cases hx:i<l.length
    · simp only [hx,decide_true,cond_true,BY _ _ hx,Option.bind_some]
      rw [Dq i (by omega),Bg hx,List.contains_cons,Ng l x hl n (i+1) (by omega) (by omega)]
      cases hv:(l[i] == x) with
      | true =>
        have:(x == l[i])=true:=by rw [beq_iff_eq] at hv ⊢; exact hv.symm
        simp [this]
      | false =>
        have:(x == l[i])=false:=by
          cases hq:(x == l[i]) with
          | false=>rfl
          | true=>rw [beq_iff_eq] at hq; rw [hq] at hv; simp at hv
        simp [this]
    · have:i=l.length:=by omega
      subst this
      simp
theorem P6 (n:Nat) (l:List Int) (x:Int) (hl:l.length≤1000) (hn:l.length<n):GZ n l x=some (l.contains x):=by
  unfold GZ
  have e1:=Ng l x hl n 0 (by omega) (by omega)
  rw [show((0:Nat):Int)=0 from rfl,List.drop_zero] at e1
  rw [e1]
  cases l.contains x <;> rfl
theorem HA (y:Aj) (order:List Int) (i:Nat) (hi:i<order.length) (ho:order.length≤1000) (hr:∀ k,k≤i→EQ (order.getD k 0) 0 ((y.buses.length:Int)-1)=true):∀ (n k:Nat),i<n+k→k≤i →
    BV n y order (i:Int) (k:Int)=some (if ((order.take i).drop k).any (fun j=>decide ((A9 y order[i]).hi<(A9 y j).lo)) then Ex.ret false else Ex.go ())
  | 0,k,h,hk=>by omega
  | n+1,k,h,hk=>by
    rw [BV]
    by_cases hx:k<i
    · have hx':k<(order.take i).length:=by rw [List.length_take]; omega
      have hko:k<order.length:=by omega
      have b1:EQ order[k] 0 ((y.buses.length:Int)-1)=true:=by
        have:=hr k (by omega)
        rwa [List.getD_eq_getElem?_getD,List.getElem?_eq_getElem hko] at this
      have b2:EQ order[i] 0 ((y.buses.length:Int)-1)=true:=by
        have:=hr i (by omega)
        rwa [List.getD_eq_getElem?_getD,List.getElem?_eq_getElem hi] at this
      simp only [show decide ((k:Int)<(i:Int))=true by simp; omega,cond_true,BY _ _ hko,BY _ _ hi,Option.bind_some,Gc y b1,Gc y b2]
      rw [Dq k (by omega),HA y order i hi ho hr n (k+1) (by omega) (by omega),Bg hx',List.any_cons,List.getElem_take]
      rw [show decide ((A9 y order[k]).lo>(A9 y order[i]).hi)=decide ((A9 y order[i]).hi<(A9 y order[k]).lo) from rfl]
      cases decide ((A9 y order[i]).hi<(A9 y order[k]).lo) <;> simp
    · have:k=i:=by omega
      subst this
      simp
theorem P7 {α:Type} (xs:List α) (i:Nat) (h:i≤xs.length):Mw xs (i:Int)=some (xs.take i):=by
  unfold Mw
  simp [h]
theorem HB (y:Aj) (hb:y.buses.length≤1000) (order:List Int) (ho:order.length≤400):∀ (n i:Nat),2*order.length+2<n+i→i≤order.length→(∀ k,k<i→EQ (order.getD k 0) 0 ((y.buses.length:Int)-1)=true) →
    BW n y order (i:Int)=some (if F8 y (order.take i) (order.drop i) then Ex.go () else Ex.ret false)
  | 0,i,h,hi,_=>by omega
  | n+1,i,h,hi,hp=>by
    rw [BW,Bs]
    by_cases hx:i<order.length
    · simp only [hx,decide_true,cond_true,BY _ _ hx,Option.bind_some,F6]
      rw [It (x:=(y.buses.length:Int)-1) (by omega) (by omega),Bg hx,F8]
      unfold Nf
      cases h1:EQ order[i] 0 ((y.buses.length:Int)-1) with
      | false=>simp
      | true =>
        have hr:∀ k,k≤i→EQ (order.getD k 0) 0 ((y.buses.length:Int)-1)=true:=fun k hk=>by
          rcases Nat.lt_or_ge k i with h' | h'
          · exact hp k h'
          · obtain rfl:k=i:=by omega
            rw [List.getD_eq_getElem?_getD,List.getElem?_eq_getElem hx]
            exact h1
        simp only [Bool.not_true,cond_false,P7 _ _ (Nat.le_of_lt hx),Option.bind_some,P6 n (order.take i) _ (by simp; omega) (by simp; omega)]
        have e1:=HA y order i hx (by omega) hr n 0 (by omega) (by omega)
        rw [show((0:Nat):Int)=0 from rfl,List.drop_zero] at e1
        rw [e1]
        cases h2:(order.take i).contains order[i] with
        | true=>simp
        | false =>
          cases h3:(order.take i).any fun j=>decide ((A9 y order[i]).hi<(A9 y j).lo) with
          | true=>simp [Ex.bind]
          | false =>
            have e2:order.take i++[order[i]]=order.take (i+1):=(List.take_succ_eq_append_getElem hx).symm
            simp only [cond_false,Option.bind_some,Bool.false_eq_true,if_false,Ex.bind,Bool.or_self,Bool.not_false,Bool.and_self,Bool.true_and]
            rw [Dq i (by omega),e2]
            exact HB y hb order ho n (i+1) (by omega) (by omega) fun k hk=>hr k (by omega)
    · have:i=order.length:=by omega
      subst this
      simp [F8]
theorem O3 (n:Nat) (y:Aj) (hb:y.buses.length≤1000) (order:List Int) (ho:order.length≤400) (hn:2*order.length+2<n):Ev n y order=some (F9 y order):=by
  unfold Ev F9
  by_cases hl:order.length=y.buses.length
  · have e1:=HB y hb order ho n 0 (by omega) (by omega) (fun k hk=>absurd hk (Nat.not_lt_zero _))
    rw [show((0:Nat):Int)=0 from rfl,List.take_zero,List.drop_zero] at e1
    rw [e1,show((order.length:Int) != (y.buses.length:Int))=false by simp [hl]]
    cases F8 y [] order <;> simp [Ex.bind,hl]
  · rw [show((order.length:Int) != (y.buses.length:Int))=true by simp; omega]
    simp [hl]
theorem En {y:Aj} (h:B2 y=0):y.room.length≤3∧0<y.room.length∧y.buses.length≤8∧EQ y.broken 0 2=true∧(y.room.all fun r=>EQ r 0 8)=true∧y.buses.all Ds=true∧Gr [] (y.buses.map (·.turn))=false:=by
  unfold B2 at h
  split at h
  · omega
  · split at h
    · omega
    · rename_i h1 h2
      simp only [not_or] at h2
      simp only [Bool.not_eq_false,Bool.not_eq_true] at h2
      exact⟨by omega,by omega,by omega,h2.2.1,h2.2.2.1,h2.2.2.2.1,h2.2.2.2.2⟩
end Go.Proofs.Ythcbemnflgjadaa
namespace Go.Proofs.Ythcbemnflgjadaa
open Go Go.RowKit
theorem R9 {α:Type} (p:List α) (x:α) (r:List α):(p++x::r)[p.length]? = some x:=by simp
theorem RA {α:Type} (p:List α) (x z:α) (r:List α):(p++x::r).set p.length z=p++z::r:=by
  rw [List.set_append_right _ _ (Nat.le_refl _),Nat.sub_self]; rfl
theorem DX {α:Type} (p:List α) (x:α) (r:List α) {k:Nat} (hk:k=p.length):Ba (p++x::r) (k:Int)=some x:=by subst hk; rw [R6,R9]
theorem Gd {α:Type} (p:List α) (x z:α) (r:List α) {k:Nat} (hk:k=p.length):upd (p++x::r) (k:Int) z=some (p++z::r):=by
  subst hk; rw [So _ _ _ (by simp),RA]
def G0 (lt:Int→Int→Bool) (x:Int):List Int→List Int
  | []=>[x]
  | y::r=>if lt x y then y::G0 lt x r else x::y::r
def O4 (lt:Int→Int→Bool) (l:List Int) (x:Int):List Int:=(G0 lt x l.reverse).reverse
def Dn (lt:Int→Int→Bool) (l:List Int):List Int:=l.foldl (O4 lt) []
theorem Kj (lt:Int→Int→Bool) (x:Int):∀ l,(G0 lt x l).Perm (x::l)
  | []=>.refl _
  | y::r=>by
    unfold G0
    split
    · exact((Kj lt x r).cons y).trans (.swap x y r)
    · exact .refl _
theorem Qv (lt:Int→Int→Bool) (l:List Int) (x:Int):(O4 lt l x).Perm (l++[x]):=by
  unfold O4
  refine(List.reverse_perm _).trans ((Kj lt x _).trans ?_)
  refine((List.reverse_perm l).cons x).trans ?_
  exact(List.perm_append_singleton x l).symm
theorem Hp (lt:Int→Int→Bool):∀ (l acc:List Int),(l.foldl (O4 lt) acc).Perm (acc++l)
  | [],acc=>by simp
  | x::r,acc=>by
    rw [List.foldl_cons]
    refine(Hp lt r _).trans ?_
    refine((Qv lt acc x).append_right r).trans ?_
    simp
theorem CX (lt:Int→Int→Bool) (l:List Int):(Dn lt l).Perm l:=by simpa [Dn] using Hp lt l []
theorem Cx (lt:Int→Int→Bool) (l:List Int):(Dn lt l).length=l.length:=(CX lt l).length_eq
theorem Kk (lt:Int→Int→Bool) (l:List Int) (x:Int):Dn lt (l++[x])=O4 lt (Dn lt l) x:=by simp [Dn,List.foldl_append]
theorem KF {lt:Int→Int→Bool} {le:Int→Int→Prop} (h1:∀ a b,lt a b=true→le a b) (h2:∀ a b,lt a b=false→le b a) (ht:∀ a b c,le a b→le b c→le a c) (x:Int) :
    ∀ l:List Int,l.Pairwise (fun a b=>le b a)→(G0 lt x l).Pairwise (fun a b=>le b a)
  | [],_=>by simp [G0]
  | y::r,h=>by
    rw [List.pairwise_cons] at h
    unfold G0
    split
    · rename_i hx
      rw [List.pairwise_cons]
      refine⟨fun z hz=>?_,KF h1 h2 ht x r h.2⟩
      rcases List.mem_cons.1 ((Kj lt x r).mem_iff.1 hz) with rfl | hz
      · exact h1 _ _ hx
      · exact h.1 z hz
    · rename_i hx
      have hyx:=h2 x y (by simpa using hx)
      rw [List.pairwise_cons,List.pairwise_cons]
      refine⟨fun z hz=>?_,h⟩
      rcases List.mem_cons.1 hz with rfl | hz
      · exact hyx
      · exact ht _ _ _ (h.1 z hz) hyx
theorem O5 {lt:Int→Int→Bool} {le:Int→Int→Prop} (h1:∀ a b,lt a b=true→le a b) (h2:∀ a b,lt a b=false→le b a) (ht:∀ a b c,le a b→le b c→le a c) (l:List Int):(Dn lt l).Pairwise le:=by
  have key:∀ (l acc:List Int),acc.Pairwise le→(l.foldl (O4 lt) acc).Pairwise le:=by
    intro l
    induction l with
    | nil=>intro acc h; exact h
    | cons x r ih =>
      intro acc h
      rw [List.foldl_cons]
      refine ih _ ?_
      unfold O4
      rw [List.pairwise_reverse]
      exact KF h1 h2 ht x _ (List.pairwise_reverse.2 h)
  exact key l [] List.Pairwise.nil
theorem LA (cmp:Int→Int→Option Int) (lt:Int→Int→Bool) (x:Int):∀ (A B:List Int)(n:Nat),A.length<n→A.length≤1000000→(∀ y∈A,∃ d,cmp x y=some d∧decide (d<0)=lt x y) →
    A1 n 0 cmp (A.reverse++x::B) (A.length:Int)=some ((G0 lt x A).reverse++B)
  | _,_,0,h,_,_=>by omega
  | [],B,n+1,_,_,_=>by
    rw [A1]
    simp [G0]
  | y::A,B,n+1,h,hl,hc=>by
    obtain⟨d,hd,hlt⟩:=hc y (by simp)
    have hl':A.length+1≤1000000:=by simpa using hl
    have e0:(y::A).reverse++x::B=A.reverse++y::x::B:=by simp
    have e1:(y::A).reverse++x::B=(A.reverse++[y])++x::B:=by simp
    have hk:(A.reverse++[y]).length=A.length+1:=by simp
    have i1:Ba ((y::A).reverse++x::B) ((A.length+1:Nat):Int)=some x:=by rw [e1,DX _ _ _ hk.symm]
    have i2:Ba ((y::A).reverse++x::B) (A.length:Int)=some y:=by rw [e0,DX _ _ _ (by simp)]
    have u1:upd ((y::A).reverse++x::B) ((A.length+1:Nat):Int) y=some (A.reverse++y::y::B):=by rw [e1,Gd _ _ _ _ hk.symm]; simp
    have i3:Ba (A.reverse++y::y::B) (A.length:Int)=some y:=DX _ _ _ (by simp)
    have u2:upd (A.reverse++y::y::B) (A.length:Int) x=some (A.reverse++x::y::B):=Gd _ _ _ _ (by simp)
    have w1:IntKind.i64.wrap (((A.length+1:Nat):Int)-1)=(A.length:Int):=by rw [It (by omega) (by omega)]; omega
    have g1:decide (((A.length+1:Nat):Int)>0)=true:=decide_eq_true (by omega)
    rw [A1,List.length_cons]
    simp only [g1,cond_true,i1,i2,w1,Option.bind_some,hd,hlt]
    unfold G0
    cases hx:lt x y with
    | false=>simp
    | true =>
      simp only [cond_true,u1,i3,u2,Option.bind_some,if_true]
      rw [LA cmp lt x A (y::B) n (by simp at h; omega) (by omega) fun z hz=>hc z (by simp [hz])]
      simp
theorem LB (cmp:Int→Int→Option Int) (lt:Int→Int→Bool) (l:List Int) (hl:l.length≤1000) (hc:∀ x∈l,∀ y∈l,∃ d,cmp x y=some d∧decide (d<0)=lt x y):∀ (n i:Nat),2*l.length+2≤n+i→i≤l.length →
    A2 n 0 (l.length:Int) cmp (Dn lt (l.take i)++l.drop i) (i:Int)=some (Dn lt l)
  | 0,i,h,hi=>by omega
  | n+1,i,h,hi=>by
    rw [A2]
    by_cases hx:i<l.length
    · have h1:=LA cmp lt l[i] (Dn lt (l.take i)).reverse (l.drop (i+1)) n (by simp [Cx]; omega) (by simp [Cx]; omega) (fun y hy=>hc _ (List.getElem_mem hx) y (by
        have:=(CX lt (l.take i)).mem_iff.1 (List.mem_reverse.1 hy)
        exact List.mem_of_mem_take this))
      rw [List.reverse_reverse,List.length_reverse,Cx,List.length_take,Nat.min_eq_left (Nat.le_of_lt hx),← Bg hx] at h1
      have e1:(G0 lt l[i] (Dn lt (l.take i)).reverse).reverse=Dn lt (l.take (i+1)):=by
        rw [List.take_succ_eq_append_getElem hx,Kk]; rfl
      rw [show decide ((i:Int)<(l.length:Int))=true by simp; omega,cond_true,h1,Option.bind_some,Dq i (by omega),e1]
      exact LB cmp lt l hl hc n (i+1) (by omega) (by omega)
    · have:i=l.length:=by omega
      subst this
      simp
theorem NI (n:Nat) (cmp:Int→Int→Option Int) (lt:Int→Int→Bool) (l:List Int) (hl:l.length≤1000) (hc:∀ x∈l,∀ y∈l,∃ d,cmp x y=some d∧decide (d<0)=lt x y) (hn:2*l.length+2≤n) :
    AQ n l 0 (l.length:Int) cmp=some (Dn lt l):=by
  unfold AQ
  have e1:IntKind.i64.wrap (0+1)=((1:Nat):Int):=by decide
  rw [e1]
  cases l with
  | nil =>
    obtain⟨m,rfl⟩:∃ m,n=m+1:=⟨n-1,by simp at hn; omega⟩
    rw [A2]
    simp [Dn]
  | cons x r =>
    have h1:=LB cmp lt (x::r) hl hc n 1 (by omega) (by simp)
    have e2:Dn lt ((x::r).take 1)++(x::r).drop 1=x::r:=by simp [Dn,O4,G0]
    rw [e2] at h1
    rw [h1]
    rfl
theorem KG (n:Nat) (cmp:Int→Int→Option Int) (lt:Int→Int→Bool) (l:List Int) (hl:l.length≤12) (hc:∀ x∈l,∀ y∈l,∃ d,cmp x y=some d∧decide (d<0)=lt x y) (hn:2*l.length+4≤n) :
    AD n l cmp=some (Dn lt l):=by
  unfold AD ER
  have w1:IntKind.u64.wrap (l.length:Int)=(l.length:Int):=by
    simp [IntKind.wrap,IntKind.bits,IntKind.signed]; omega
  rw [w1,if_pos ⟨by simp,by simp; omega⟩]
  obtain⟨m,rfl⟩:∃ m,n=m+2:=⟨n-2,by omega⟩
  simp only [Option.bind_some]
  rw [AT,AZ]
  have w2:IntKind.i64.wrap ((l.length:Int)-0)=(l.length:Int):=by rw [It (by omega) (by omega)]; omega
  have c1:decide ((l.length:Int)≤12)=true:=by simp; omega
  rw [w2,c1,cond_true,NI m cmp lt l (by omega) hc (by omega)]
  rfl
theorem O6 {key:Int→Int} {l l':List Int} (hk:∀ a∈l,∀ b∈l,key a=key b→a=b) (h1:l.Pairwise fun a b=>key a≤key b) (h2:l'.Pairwise fun a b=>key a≤key b) (hp:l.Perm l'):l=l' :=
  List.Perm.eq_of_pairwise (le:=fun a b=>key a≤key b) (fun a b ha hb hab hba=>hk a ha b (hp.mem_iff.2 hb) (Int.le_antisymm hab hba)) h1 h2 hp
def BI (key:Int→Int) (a b:Int):Bool:=decide (key a<key b)
theorem IY (key:Int→Int) (l:List Int):(Dn (BI key) l).Pairwise fun a b=>key a≤key b :=
  O5 (le:=fun a b=>key a≤key b) (fun a b h=>by simp [BI] at h; omega) (fun a b h=>by simp [BI] at h; omega) (fun a b c h1 h2=>Int.le_trans h1 h2) l
end Go.Proofs.Ythcbemnflgjadaa
namespace Go.Proofs.Ythcbemnflgjadaa
open Go Go.RowKit
def Au (n:Nat):List Int:=(List.range n).map fun(k:Nat)=>(k:Int)
theorem Ee (n:Nat):Au (n+1)=Au n++[(n:Int)]:=by simp [Au,List.range_succ]
theorem BS (n:Nat):(Au n).length=n:=by simp [Au]
theorem A8 {n:Nat} {b:Int}:b∈Au n↔0≤b∧b<n:=by
  unfold Au
  rw [List.mem_map]
  constructor
  · rintro⟨k,hk,rfl⟩
    rw [List.mem_range] at hk
    omega
  · intro h
    exact⟨b.toNat,by rw [List.mem_range]; omega,by omega⟩
theorem CY {y:Aj} {b:Int}:EQ b 0 ((y.buses.length:Int)-1)=true↔b∈Au y.buses.length:=by
  rw [C8,A8]; omega
theorem CM:∀ n,(Au n).Nodup
  | 0=>by simp [Au]
  | n+1=>by
    rw [Ee,List.nodup_append]
    refine⟨CM n,by simp,fun a ha b hb=>?_⟩
    rw [A8] at ha
    simp at hb
    omega
def BT (y:Aj) (b:Int):Int:=(A9 y b).turn
def LC (y:Aj) (f:Int→Bool):List Int:=(Au y.buses.length).filter fun b=>!f b
def Cs (y:Aj) (f:Int→Bool):List Int:=Dn (BI (BT y)) (LC y f)
theorem LD {y:Aj} {f:Int→Bool} {b:Int}:b∈LC y f↔b∈Au y.buses.length∧f b=false:=by
  unfold LC
  rw [List.mem_filter]
  simp
theorem Dt {y:Aj} {f:Int→Bool} {b:Int}:b∈Cs y f↔b∈Au y.buses.length∧f b=false:=by
  unfold Cs
  rw [(CX _ _).mem_iff,LD]
theorem O7 (y:Aj) (f:Int→Bool):(LC y f).length≤y.buses.length:=by
  unfold LC
  exact Nat.le_trans (List.length_filter_le _ _) (by rw [BS]; exact Nat.le_refl _)
theorem GT (y:Aj) (f:Int→Bool):(Cs y f).length≤y.buses.length:=by
  unfold Cs
  rw [Cx]
  exact O7 y f
theorem NJ (y:Aj) (f:Int→Bool):(Cs y f).Nodup:=by
  unfold Cs
  rw [(CX _ _).nodup_iff]
  unfold LC
  exact List.Pairwise.filter _ (CM _)
theorem KH (y:Aj) (f:Int→Bool) (hb:y.buses.length≤8):∀ (n i:Nat),y.buses.length<n+i→i≤y.buses.length →
    Bi n y (Bm f) ((Au i).filter fun b=>!f b) (i:Int)=some (LC y f)
  | 0,i,h,hi=>by omega
  | n+1,i,h,hi=>by
    rw [Bi,Bs]
    by_cases hx:i<y.buses.length
    · have h0:(0:Int)≤(i:Int):=by omega
      have h8:(i:Int)<8:=by omega
      simp only [hx,decide_true,cond_true,NH h0 h8,L8 _ h0 h8,Option.bind_some]
      have ih:=KH y f hb n (i+1) (by omega) (by omega)
      rw [Ee,List.filter_append] at ih
      rw [Dq i (by omega)]
      have hlen:=List.length_filter_le (fun b=>!f b) (Au i)
      rw [BS] at hlen
      cases hf:f (i:Int) with
      | true =>
        simp only [Bool.not_true,cond_false]
        rw [← ih]
        simp [hf]
      | false =>
        simp only [Bool.not_false,cond_true]
        rw [EU _ _ (by simp; omega),Option.bind_some,← ih]
        simp [hf]
    · have:i=y.buses.length:=by omega
      subst this
      simp [LC]
theorem Qw (n:Nat) {y:Aj} (hv:y.buses.all Ds=true) {a b:Int} (ha:a∈Au y.buses.length) (hb:b∈Au y.buses.length) :
    ∃ d,Bp n a b y=some d∧decide (d<0)=BI (BT y) a b:=by
  rw [← CY] at ha hb
  have h1:=H8 hv ha
  have h2:=H8 hv hb
  unfold Bp
  rw [Gc y ha,Gc y hb]
  refine⟨_,rfl,?_⟩
  rw [It (by omega) (by omega)]
  unfold BI BT
  by_cases h:(A9 y a).turn<(A9 y b).turn
  · rw [decide_eq_true h,decide_eq_true (by omega)]
  · rw [decide_eq_false h,decide_eq_false (by omega)]
theorem QR (n:Nat) (y:Aj) (f:Int→Bool) (hb:y.buses.length≤8) (hv:y.buses.all Ds=true) (hn:20≤n):Cw n y (Bm f)=some (Cs y f):=by
  unfold Cw
  have e1:=KH y f hb n 0 (by omega) (by omega)
  rw [show((0:Nat):Int)=0 from rfl] at e1
  have hl:=O7 y f
  have e2:=KG n (fun y0 y1=>Bp n y0 y1 y) (BI (BT y)) (LC y f) (by omega) (fun a ha b hb=>Qw n hv (LD.1 ha).1 (LD.1 hb).1) (by omega)
  rw [show(Au 0).filter (fun b=>!f b)=([]:List Int) from rfl] at e1
  rw [e1,Option.bind_some,e2]
  rfl
theorem Hq (y:Aj) (hv:y.buses.length≤1000) (x:Int) (hx:x∈Au y.buses.length):∀ (A B:List Int)(n:Nat),A.length<n→A.length≤1000000→(∀ z∈A,z∈Au y.buses.length) →
    Cz n y (A.reverse++x::B) (A.length:Int)=some ((G0 (BI (BT y)) x A).reverse++B)
  | _,_,0,h,_,_=>by omega
  | [],B,n+1,_,_,_=>by
    rw [Cz]
    simp [G0]
  | z::A,B,n+1,h,hl,hc=>by
    have hl':A.length+1≤1000000:=by simpa using hl
    have e0:(z::A).reverse++x::B=A.reverse++z::x::B:=by simp
    have e1:(z::A).reverse++x::B=(A.reverse++[z])++x::B:=by simp
    have hk:(A.reverse++[z]).length=A.length+1:=by simp
    have i1:Ba ((z::A).reverse++x::B) ((A.length+1:Nat):Int)=some x:=by rw [e1,DX _ _ _ hk.symm]
    have i2:Ba ((z::A).reverse++x::B) (A.length:Int)=some z:=by rw [e0,DX _ _ _ (by simp)]
    have u1:upd ((z::A).reverse++x::B) ((A.length+1:Nat):Int) z=some (A.reverse++z::z::B):=by rw [e1,Gd _ _ _ _ hk.symm]; simp
    have i3:Ba (A.reverse++z::z::B) (A.length:Int)=some z:=DX _ _ _ (by simp)
    have u2:upd (A.reverse++z::z::B) (A.length:Int) x=some (A.reverse++x::z::B):=Gd _ _ _ _ (by simp)
    have w1:IntKind.i64.wrap (((A.length+1:Nat):Int)-1)=(A.length:Int):=by rw [It (by omega) (by omega)]; omega
    have g1:decide (((A.length+1:Nat):Int)>0)=true:=decide_eq_true (by omega)
    rw [Cz,List.length_cons]
    simp only [g1,cond_true,i1,i2,w1,Option.bind_some,Gc y (CY.2 hx),Gc y (CY.2 (hc z (by simp)))]
    rw [show decide ((A9 y x).turn<(A9 y z).turn)=BI (BT y) x z from rfl]
    unfold G0
    cases hq:BI (BT y) x z with
    | false=>simp
    | true =>
      simp only [cond_true,u1,i3,u2,Option.bind_some,if_true]
      rw [Hq y hv x hx A (z::B) n (by simp at h; omega) (by omega) fun q hq=>hc q (by simp [hq])]
      simp
theorem Hr (y:Aj) (broken:List Int) (hb:y.buses.length≤20) (hbr:broken.length≤20):∀ (n i:Nat),60≤n+i→i≤y.buses.length →
    C0 n y broken (Dn (BI (BT y)) ((Au i).filter fun b=>!Bl broken b)) (i:Int)=some (Cs y (Bl broken))
  | 0,i,h,hi=>by omega
  | n+1,i,h,hi=>by
    rw [C0,Bs]
    by_cases hx:i<y.buses.length
    · simp only [hx,decide_true,cond_true,P6 n broken _ (by omega) (by omega),Option.bind_some]
      have ih:=Hr y broken hb hbr n (i+1) (by omega) (by omega)
      rw [Ee,List.filter_append] at ih
      rw [Dq i (by omega)]
      have hlen:=List.length_filter_le (fun b=>!Bl broken b) (Au i)
      rw [BS] at hlen
      rw [show broken.contains (i:Int)=Bl broken (i:Int) from rfl]
      cases hf:Bl broken (i:Int) with
      | true =>
        simp only [cond_true]
        rw [← ih]
        simp [hf]
      | false =>
        simp only [cond_false]
        have hq:(Dn (BI (BT y)) ((Au i).filter fun b=>!Bl broken b)).length≤i:=by rw [Cx]; exact hlen
        rw [EU _ _ (by simp; omega),Option.bind_some]
        have e1:=Hq y (by omega) (i:Int) (by rw [A8]; omega) (Dn (BI (BT y)) ((Au i).filter fun b=>!Bl broken b)).reverse [] n (by rw [List.length_reverse]; omega) (by rw [List.length_reverse]; omega) (fun z hz=>by
          have:=(CX _ _).mem_iff.1 (List.mem_reverse.1 hz)
          have:=(List.mem_filter.1 this).1
          rw [A8] at this ⊢
          omega)
        rw [List.reverse_reverse,List.length_reverse,List.append_nil] at e1
        have w1:IntKind.i64.wrap ((((Dn (BI (BT y)) ((Au i).filter fun b=>!Bl broken b)++[(i:Int)]).length:Nat):Int)-1)=((Dn (BI (BT y)) ((Au i).filter fun b=>!Bl broken b)).length:Int):=by
          rw [List.length_append,List.length_singleton,It (by omega) (by omega)]; omega
        rw [w1,e1,Option.bind_some,← ih]
        simp only [hf,List.filter_cons,List.filter_nil,Bool.not_false,if_true,Kk]
        rfl
    · have:i=y.buses.length:=by omega
      subst this
      simp [Cs,LC]
theorem NK (n:Nat) (y:Aj) (broken:List Int) (hb:y.buses.length≤20) (hbr:broken.length≤20) (hn:60≤n):G6 n y broken=some (Cs y (Bl broken)):=by
  unfold G6
  have e1:=Hr y broken hb hbr n 0 (by omega) (by omega)
  rw [show((0:Nat):Int)=0 from rfl,show Dn (BI (BT y)) ((Au 0).filter fun b=>!Bl broken b)=[] from rfl] at e1
  rw [e1]
  rfl
def Dg (m:Nat) (g:Int→Int):List Int:=(Au m).map g
theorem Iu (m:Nat) (g:Int→Int):(Dg m g).length=m:=by simp [Dg,BS]
theorem NL {m:Nat} {g:Int→Int} {k:Nat} (h:k<m):(Dg m g)[k]? = some (g (k:Int)):=by
  unfold Dg Au
  rw [List.getElem?_map,List.getElem?_map,List.getElem?_range h]
  rfl
theorem Jt {m:Nat} {g:Int→Int} {b:Int} (h:EQ b 0 ((m:Int)-1)=true):Ba (Dg m g) b=some (g b):=by
  rw [C8] at h
  obtain⟨k,rfl⟩:=Int.eq_ofNat_of_zero_le h.1
  rw [R6,NL (by omega)]
theorem NM {m:Nat} {g:Int→Int} {l:List Int} (hl:l.length=m) (h:∀ k,k<m→l[k]? = some (g (k:Int))):l=Dg m g:=by
  apply List.ext_getElem?
  intro k
  rcases Nat.lt_or_ge k m with hk | hk
  · rw [h k hk,NL hk]
  · rw [List.getElem?_eq_none (by omega),List.getElem?_eq_none (by rw [Iu]; omega)]
theorem NN {m:Nat} {g:Int→Int} {b v:Int} (h:EQ b 0 ((m:Int)-1)=true):upd (Dg m g) b v=some (Dg m fun x=>if x=b then v else g x):=by
  rw [C8] at h
  obtain⟨k,rfl⟩:=Int.eq_ofNat_of_zero_le h.1
  rw [So _ _ _ (by rw [Iu]; omega)]
  congr 1
  refine NM (by rw [List.length_set,Iu]) fun j hj=>?_
  by_cases hjk:j=k
  · subst hjk
    rw [List.getElem?_set_self (by rw [Iu]; omega)]
    simp
  · rw [List.getElem?_set_ne (Ne.symm hjk),NL hj,if_neg (by omega)]
theorem LF (l:List Int):l=Dg l.length fun k=>l.getD k.toNat 0:=NM rfl fun k hk=>by
  rw [List.getElem?_eq_getElem hk]
  simp [List.getD_eq_getElem?_getD,List.getElem?_eq_getElem hk]
theorem O8 (m:Nat):List.replicate m (0:Int)=Dg m fun _=>0:=NM (by simp) fun k hk=>by
  rw [List.getElem?_replicate,if_pos hk]
def BZ (room:List Int) (k:Int):Int:=room.getD k.toNat 0
def CN (room:List Int):List Int→List Int→Bool
  | _,[]=>true
  | pre,n::r=>EQ n 0 ((room.length:Int)-1) && (decide ((pre.count n:Int)<BZ room n) && CN room (pre++[n]) r)
def Eo (y:Aj) (l:List Int):Bool:=decide (l.length=y.buses.length) && CN y.room [] l
theorem Kl {room:List Int} (h:(room.all fun r=>EQ r 0 8)=true) {k:Int} (hk:EQ k 0 ((room.length:Int)-1)=true):0≤BZ room k∧BZ room k≤8:=by
  rw [C8] at hk
  have hl:k.toNat<room.length:=by omega
  unfold BZ
  rw [List.getD_eq_getElem?_getD,List.getElem?_eq_getElem hl]
  exact C8.1 (List.all_eq_true.1 h _ (List.getElem_mem hl))
theorem GU (pre:List Int) (n k:Int):((pre++[n]).count k:Int)=(pre.count k:Int)+(if k=n then 1 else 0):=by
  rw [List.count_append,List.count_singleton]
  by_cases h:k=n
  · subst h; simp
  · have:(n == k)=false:=by
      cases hq:(n == k) with
      | false=>rfl
      | true=>rw [beq_iff_eq] at hq; exact absurd hq.symm h
    simp [h,this]
theorem KI (room:List Int) (hr:(room.all fun r=>EQ r 0 8)=true) (hm:room.length≤1000) (l:List Int) (hl:l.length≤1000):∀ (n i:Nat),l.length<n+i→i≤l.length→(∀ k,EQ k 0 ((room.length:Int)-1)=true→((l.take i).count k:Int)≤BZ room k) →
    ∃ r,Bu n l (Dg room.length fun k=>BZ room k-((l.take i).count k:Int)) (i:Int)=some r∧(if CN room (l.take i) (l.drop i) then ∃ x,r=Ex.go x else r=Ex.ret false)
  | 0,i,h,hi,_=>by omega
  | n+1,i,h,hi,hc=>by
    rw [Bu,Bs]
    by_cases hx:i<l.length
    · simp only [hx,decide_true,cond_true,BY _ _ hx,Option.bind_some,Gy,Iu]
      rw [It (x:=(room.length:Int)-1) (by omega) (by omega),Bg hx,CN]
      cases h1:EQ l[i] 0 ((room.length:Int)-1) with
      | false=>exact⟨_,rfl,by simp⟩
      | true =>
        have hk:=hc _ h1
        have hR:=Kl hr h1
        simp only [Bool.not_true,cond_false,Jt h1,Option.bind_some]
        by_cases h2:((l.take i).count l[i]:Int)<BZ room l[i]
        · have e0:(BZ room l[i]-((l.take i).count l[i]:Int) == 0)=false:=by
            cases hq:(BZ room l[i]-((l.take i).count l[i]:Int) == 0) with
            | false=>rfl
            | true=>rw [beq_iff_eq] at hq; omega
          rw [e0]
          simp only [cond_false,NN h1,Option.bind_some]
          rw [Dq i (by omega),It (by omega) (by omega),decide_eq_true h2]
          have e1:l.take i++[l[i]]=l.take (i+1):=(List.take_succ_eq_append_getElem hx).symm
          have e2:(Dg room.length fun x=>if x=l[i] then BZ room l[i]-((l.take i).count l[i]:Int)-1 else BZ room x-((l.take i).count x:Int))=Dg room.length fun k=>BZ room k-((l.take (i+1)).count k:Int):=by
            congr 1
            funext x
            rw [← e1,GU]
            by_cases hxe:x=l[i]
            · rw [if_pos hxe,if_pos hxe,hxe]; omega
            · rw [if_neg hxe,if_neg hxe]; omega
          rw [e1,e2]
          simp only [Bool.true_and]
          refine KI room hr hm l hl n (i+1) (by omega) (by omega) fun k hkk=>?_
          rw [← e1,GU]
          have:=hc k hkk
          split
          · rename_i hke; rw [hke]; omega
          · omega
        · have e0:(BZ room l[i]-((l.take i).count l[i]:Int) == 0)=true:=by rw [beq_iff_eq]; omega
          rw [e0,decide_eq_false h2]
          exact⟨_,rfl,by simp⟩
    · have:i=l.length:=by omega
      subst this
      exact⟨Ex.go _,by simp; rfl,by simp [CN]⟩
theorem QS (n:Nat) (y:Aj) (hr:(y.room.all fun r=>EQ r 0 8)=true) (hm:y.room.length≤1000) (l:List Int) (hl:l.length≤1000) (hn:l.length<n):Cu n y l=some (Eo y l):=by
  unfold Cu Eo
  by_cases he:l.length=y.buses.length
  · rw [show((l.length:Int) != (y.buses.length:Int))=false by simp [he],cond_false,QN n _ hm,Option.bind_some]
    obtain⟨r,h1,h2⟩:=KI y.room hr hm l hl n 0 (by omega) (by omega) (fun k hk=>by simp; exact(Kl hr hk).1)
    have e1:(Dg y.room.length fun k=>BZ y.room k-(((l.take 0).count k:Nat):Int))=y.room:=by
      refine Eq.trans ?_ (LF y.room).symm
      congr 1
      funext k
      simp [BZ]
    rw [e1,show((0:Nat):Int)=0 from rfl] at h1
    rw [h1]
    simp only [List.take_zero,List.drop_zero] at h2
    split at h2
    · rename_i hq
      obtain⟨x,rfl⟩:=h2
      simp [Ex.bind,he,hq]
    · rename_i hq
      subst h2
      simp [Ex.bind,he,hq]
  · rw [show((l.length:Int) != (y.buses.length:Int))=true by simp; omega]
    simp [he]
theorem IB (y:Aj) (hr:(y.room.all fun r=>EQ r 0 8)=true) (hm:y.room.length≤1000) (l:List Int) (hl:l.length≤1000):∀ (n i:Nat),l.length<n+i→i≤l.length →
    ∃ r,Cm n y l (Dg y.room.length fun k=>((l.take i).count k:Int)) (i:Int)=some r∧(if CN y.room (l.take i) (l.drop i) then ∃ x,r=Ex.go x else r=Ex.ret false)
  | 0,i,h,hi=>by omega
  | n+1,i,h,hi=>by
    rw [Cm,Bs]
    by_cases hx:i<l.length
    · simp only [hx,decide_true,cond_true,BY _ _ hx,Option.bind_some,F6]
      rw [It (x:=(y.room.length:Int)-1) (by omega) (by omega),Bg hx,CN]
      cases h1:EQ l[i] 0 ((y.room.length:Int)-1) with
      | false=>exact⟨_,rfl,by simp⟩
      | true =>
        have hR:=Kl hr h1
        have hcl:(l.take i).count l[i]≤1000:=Nat.le_trans List.count_le_length (by rw [List.length_take]; omega)
        have er:Ba y.room l[i]=some (BZ y.room l[i]):=by
          have:=Jt (g:=fun k=>y.room.getD k.toNat 0) h1
          rwa [← LF y.room] at this
        simp only [Bool.not_true,cond_false,Jt h1,NN h1,Option.bind_some,er,if_true]
        rw [Dq i (by omega),It (by omega) (by omega)]
        have e1:l.take i++[l[i]]=l.take (i+1):=(List.take_succ_eq_append_getElem hx).symm
        have e2:(Dg y.room.length fun x=>if x=l[i] then((l.take i).count l[i]:Int)+1 else((l.take i).count x:Int))=Dg y.room.length fun k=>((l.take (i+1)).count k:Int):=by
          congr 1
          funext x
          rw [← e1,GU]
          by_cases hxe:x=l[i]
          · rw [if_pos hxe,if_pos hxe,hxe]
          · rw [if_neg hxe,if_neg hxe]; omega
        rw [e1,e2]
        by_cases h2:((l.take i).count l[i]:Int)<BZ y.room l[i]
        · rw [decide_eq_true h2,decide_eq_false (show ¬ ((l.take i).count l[i]:Int)+1>BZ y.room l[i] by omega)]
          simp only [cond_false,Bool.true_and]
          exact IB y hr hm l hl n (i+1) (by omega) (by omega)
        · rw [decide_eq_false h2,decide_eq_true (show((l.take i).count l[i]:Int)+1>BZ y.room l[i] by omega)]
          exact⟨_,rfl,by simp⟩
    · have:i=l.length:=by omega
      subst this
      exact⟨Ex.go _,by simp; rfl,by simp [CN]⟩
theorem P8 (n:Nat) (y:Aj) (hr:(y.room.all fun r=>EQ r 0 8)=true) (hm:y.room.length≤1000) (l:List Int) (hl:l.length≤1000) (hn:l.length<n):EW n y l=some (Eo y l):=by
  unfold EW Eo
  by_cases he:l.length=y.buses.length
  · rw [show((l.length:Int) != (y.buses.length:Int))=false by simp [he],cond_false,SD _ _ (by omega),Option.bind_some]
    obtain⟨r,h1,h2⟩:=IB y hr hm l hl n 0 (by omega) (by omega)
    have e1:(Dg y.room.length fun k=>(((l.take 0).count k:Nat):Int))=List.replicate y.room.length 0:=by
      rw [O8]
      congr 1
    rw [e1,show((0:Nat):Int)=0 from rfl] at h1
    rw [h1]
    simp only [List.take_zero,List.drop_zero] at h2
    split at h2
    · rename_i hq
      obtain⟨x,rfl⟩:=h2
      simp [Ex.bind,he,hq]
    · rename_i hq
      subst h2
      simp [Ex.bind,he,hq]
  · rw [show((l.length:Int) != (y.buses.length:Int))=true by simp; omega]
    simp [he]
end Go.Proofs.Ythcbemnflgjadaa
namespace Go.Proofs.Ythcbemnflgjadaa
open Go Go.RowKit
def G1 (y:Aj):Int→List Int→Bool
  | _,[]=>true
  | last,b::r=>EQ b 0 ((y.buses.length:Int)-1) && (decide (last<b) && G1 y b r)
def FA (y:Aj) (l:List Int):Bool:=G1 y (-1) l && decide ((l.length:Int)≤y.broken)
theorem LG (y:Aj) (hb:y.buses.length≤8) (l:List Int) (hl:l.length≤1000):∀ (n i:Nat)(last:Int),l.length<n+i→i≤l.length →
    ∃ r,B8 n y l (i:Int) last (Bm (Bl (l.take i)))=some r∧(if G1 y last (l.drop i) then r=Ex.go (Bm (Bl l)) else ∃ x,r=Ex.ret (x,false))
  | 0,i,last,h,hi=>by omega
  | n+1,i,last,h,hi=>by
    rw [B8,Bs]
    by_cases hx:i<l.length
    · simp only [hx,decide_true,cond_true,BY _ _ hx,Option.bind_some,KE _ y _ (by omega)]
      rw [Bg hx,G1]
      cases h1:EQ l[i] 0 ((y.buses.length:Int)-1) with
      | false=>exact⟨_,rfl,by simp⟩
      | true =>
        have h1':=C8.1 h1
        have h8:l[i]<8:=by omega
        by_cases h2:last<l[i]
        · simp only [Bool.not_true,cond_false,decide_eq_false (show ¬ l[i]≤last by omega),decide_eq_true h2,NH h1'.1 h8,Js _ h1'.1 h8,Option.bind_some,Bool.true_and]
          rw [Dq i (by omega)]
          have e1:l.take i++[l[i]]=l.take (i+1):=(List.take_succ_eq_append_getElem hx).symm
          have e2:(Bm fun x=>if x=l[i] then true else Bl (l.take i) x)=Bm (Bl (l.take (i+1))):=Em fun b=>by rw [← e1,Ki]
          rw [e2]
          exact LG y hb l hl n (i+1) l[i] (by omega) (by omega)
        · rw [decide_eq_false h2]
          simp only [Bool.not_true,cond_false,decide_eq_true (show l[i]≤last by omega),Option.bind_some,cond_true]
          exact⟨_,rfl,by simp⟩
    · have:i=l.length:=by omega
      subst this
      exact⟨Ex.go _,by simp; rfl,by simp [G1]⟩
theorem RB (n:Nat) (y:Aj) (hb:y.buses.length≤8) (l:List Int) (hl:l.length≤1000) (hn:l.length<n) :
    ∃ x,Dx n y l=some (x,FA y l)∧(FA y l=true→x=Bm (Bl l)):=by
  unfold Dx FA
  obtain⟨r,h1,h2⟩:=LG y hb l hl n 0 (-1) (by omega) (by omega)
  rw [show((0:Nat):Int)=0 from rfl,List.take_zero] at h1
  rw [List.drop_zero] at h2
  rw [RR,h1,Option.bind_some]
  split at h2
  · rename_i hq
    subst h2
    exact⟨_,by rw [hq]; rfl,fun _=>rfl⟩
  · rename_i hq
    obtain⟨x,rfl⟩:=h2
    exact⟨x,by simp [Ex.bind,hq],fun h=>by simp [hq] at h⟩
def IZ (l:List Int) (i:Nat):Int:=if i=0 then -1 else l.getD (i-1) 0
theorem HC (y:Aj) (hb:y.buses.length≤1000) (l:List Int) (hl:l.length≤1000):∀ (n i:Nat),l.length<n+i→i≤l.length →
    BA n y l (i:Int)=some (if G1 y (IZ l i) (l.drop i) then Ex.go () else Ex.ret false)
  | 0,i,h,hi=>by omega
  | n+1,i,h,hi=>by
    rw [BA,Bs]
    by_cases hx:i<l.length
    · simp only [hx,decide_true,cond_true,BY _ _ hx,Option.bind_some,F6]
      rw [It (x:=(y.buses.length:Int)-1) (by omega) (by omega),Bg hx,G1,Dq i (by omega)]
      cases h1:EQ l[i] 0 ((y.buses.length:Int)-1) with
      | false=>simp
      | true =>
        have h1':=C8.1 h1
        have ih:=HC y hb l hl n (i+1) (by omega) (by omega)
        have hla:IZ l (i+1)=l[i]:=by
          unfold IZ
          rw [if_neg (by omega),Nat.add_sub_cancel,List.getD_eq_getElem?_getD,List.getElem?_eq_getElem hx]
          rfl
        rw [hla] at ih
        simp only [Bool.not_true,cond_false]
        cases i with
        | zero =>
          have:IZ l 0<l[0]:=by
            show(-1:Int)<_
            omega
          rw [decide_eq_true this]
          simpa using ih
        | succ j =>
          have hj:j<l.length:=by omega
          have hlj:IZ l (j+1)=l[j]:=by
            unfold IZ
            rw [if_neg (by omega),Nat.add_sub_cancel,List.getD_eq_getElem?_getD,List.getElem?_eq_getElem hj]
            rfl
          have w1:IntKind.i64.wrap (((j+1:Nat):Int)-1)=(j:Int):=by rw [It (by omega) (by omega)]; omega
          rw [decide_eq_true (show((j+1:Nat):Int)>0 by omega),w1,BY _ _ hj,hlj]
          simp only [cond_true,Option.bind_some,ih]
          by_cases h2:l[j]<l[j+1]
          · rw [decide_eq_true h2,decide_eq_false (show ¬ l[j+1]≤l[j] by omega)]
            simp
          · rw [decide_eq_false h2,decide_eq_true (show l[j+1]≤l[j] by omega)]
            simp
    · have:i=l.length:=by omega
      subst this
      simp [G1]
theorem O9 (n:Nat) (y:Aj) (hb:y.buses.length≤1000) (l:List Int) (hl:l.length≤1000) (hn:l.length<n):Ew n y l=some (FA y l):=by
  unfold Ew FA
  have e1:=HC y hb l hl n 0 (by omega) (by omega)
  rw [show((0:Nat):Int)=0 from rfl,List.drop_zero,show IZ l 0=-1 from rfl] at e1
  rw [e1,Option.bind_some]
  cases G1 y (-1) l <;> simp [Ex.bind]
def Ep (y:Aj) (lanes order broken:List Int):Bool:=Eo y lanes && (F9 y order && FA y broken)
def Bf (y:Aj) (lanes order broken:List Int):Int:=if B2 y=0 then(if Ep y lanes order broken then 0 else 2) else B2 y
def DA (y:Aj) (lanes order broken:List Int):BE:=⟨y,lanes,Gz (CF order),Bm (Bl broken)⟩
theorem OA (n:Nat) (y:Aj) (lanes order broken:List Int) (hr:y.room.length≤100) (hb:y.buses.length≤100) (h1:lanes.length≤100) (h2:order.length≤100) (h3:broken.length≤100) (hn:200≤n) :
    ∃ x,Cv n y lanes order broken=some (x,Bf y lanes order broken)∧(Bf y lanes order broken=0→x=DA y lanes order broken):=by
  unfold Cv Bf
  rw [QP n y (by omega) (by omega) (by omega) (by omega),Option.bind_some]
  by_cases hf:B2 y=0
  · obtain⟨v1,v0,v2,v3,v4,v5,v6⟩:=En hf
    obtain⟨x1,p1,p2⟩:=O2 n y v2 v5 order (by omega) (by omega)
    obtain⟨x2,q1,q2⟩:=RB n y v2 broken (by omega) (by omega)
    rw [hf,p1,q1,QS n y v4 (by omega) lanes (by omega) (by omega)]
    simp only [Option.bind_some,bne_self_eq_false,cond_false,if_true]
    unfold Ep
    cases a1:F9 y order with
    | false=>exact⟨_,by simp; rfl,fun h=>by simp at h⟩
    | true =>
      cases a2:FA y broken with
      | false=>exact⟨_,by simp; rfl,fun h=>by simp at h⟩
      | true =>
        cases a3:Eo y lanes with
        | false=>exact⟨_,by simp; rfl,fun h=>by simp at h⟩
        | true=>exact⟨_,by simp; rfl,fun _=>by rw [p2 a1,q2 a2]; rfl⟩
  · have hn:(B2 y != 0)=true:=by simp [hf]
    rw [hn,if_neg hf]
    exact⟨_,rfl,fun h=>absurd h hf⟩
theorem QT (n:Nat) (y:Aj) (lanes order broken:List Int) (hr:y.room.length≤50) (hb:y.buses.length≤50) (h1:lanes.length≤50) (h2:order.length≤50) (h3:broken.length≤50) (hn:200≤n) :
    G7 n y lanes order broken=some (Bf y lanes order broken):=by
  unfold G7 Iv Bf
  rw [O0 n y (by omega) (by omega) (by omega) (by omega),Option.bind_some,Option.bind_some]
  by_cases hf:B2 y=0
  · obtain⟨v1,v0,v2,v3,v4,v5,v6⟩:=En hf
    rw [hf,P8 n y v4 (by omega) lanes (by omega) (by omega),O3 n y (by omega) order (by omega) (by omega),O9 n y (by omega) broken (by omega) (by omega)]
    unfold Ep
    cases Eo y lanes <;> cases F9 y order <;> cases FA y broken <;> simp
  · have hn:(B2 y != 0)=true:=by simp [hf]
    rw [hn,if_neg hf]
    rfl
theorem Ju {σ:Type} (step:σ→Int→Option σ) (q:List Int) (hq:q.length≤1000):∀ (n i:Nat)(s:σ),q.length<n+i→i≤q.length →
    AJ n (fun s x=>(step s x).bind fun s1=>some (s1,true)) q (i:Int) s=((q.drop i).foldlM step s).map Ex.go
  | 0,i,s,h,hi=>by omega
  | n+1,i,s,h,hi=>by
    rw [AJ,Bs]
    by_cases hx:i<q.length
    · simp only [hx,decide_true,cond_true,BY _ _ hx,Option.bind_some]
      rw [Dq i (by omega),Bg hx,List.foldlM_cons]
      cases hs:step s q[i] with
      | none=>rfl
      | some s' =>
        simp only [Option.bind_some,Bool.not_true,cond_false]
        rw [Ju step q hq n (i+1) s' (by omega) (by omega)]
        rfl
    · have:i=q.length:=by omega
      subst this
      simp
theorem Qx {σ:Type} (n:Nat) (step:σ→Int→Option σ) (s:σ) (q:List Int) (hq:q.length≤1000) (hn:q.length<n) :
    Be n (fun s x=>(step s x).bind fun s1=>some (s1,true)) s q=q.foldlM step s:=by
  unfold Be
  have e1:=Ju step q hq n 0 s (by omega) (by omega)
  rw [show((0:Nat):Int)=0 from rfl,List.drop_zero] at e1
  rw [e1]
  cases q.foldlM step s <;> rfl
def DZ (lanes:List Int) (b:Int):Int:=lanes.getD b.toNat 0
theorem Jv (lanes:List Int) {b:Int} (h0:0≤b) (h:b<lanes.length):Ba lanes b=some (DZ lanes b):=by
  obtain⟨k,rfl⟩:=Int.eq_ofNat_of_zero_le h0
  rw [BY _ _ (by omega)]
  unfold DZ
  simp [List.getD_eq_getElem?_getD,List.getElem?_eq_getElem (show k<lanes.length by omega)]
def P1 (lanes order:List Int) (c b:Int):Bool:=DZ lanes c == DZ lanes b && decide (CF order c<CF order b)
theorem Qy (n:Nat) (y:Aj) (lanes order broken:List Int) (hl:lanes.length=y.buses.length) (hb:y.buses.length≤8) {c b:Int} (hc:c∈Au y.buses.length) (hbb:b∈Au y.buses.length) :
    BR n (DA y lanes order broken) c b=some (P1 lanes order c b):=by
  rw [A8] at hc hbb
  unfold BR DA P1
  rw [Jv lanes hc.1 (by omega),Jv lanes hbb.1 (by omega)]
  simp only [Option.bind_some,NH hc.1 (by omega),NH hbb.1 (by omega),Lx _ hc.1 (show c<8 by omega),Lx _ hbb.1 (show b<8 by omega)]
  cases DZ lanes c == DZ lanes b <;> simp
theorem LH (l:List Int) (b:Int):0≤CF l b∧CF l b≤l.length:=by
  unfold CF
  split
  · have:=List.idxOf_le_length (a:=b) (l:=l)
    omega
  · omega
def Du (y:Aj) (lanes order:List Int) (g:Int→Bool) (b:Int) (k:Nat):List Int:=(Au k).filter fun c=>!g c && P1 lanes order c b
theorem IC (y:Aj) (lanes order broken:List Int) (hl:lanes.length=y.buses.length) (hb:y.buses.length≤8) (g:Int→Bool) (b:Int) (hbb:b∈Au y.buses.length):∀ (n i:Nat),y.buses.length<n+i→i≤y.buses.length →
    AF n (DA y lanes order broken) b (Du y lanes order g b i) (i:Int) (Bm fun x=>g x || Bl (Du y lanes order g b i) x)=some (Du y lanes order g b y.buses.length,Bm fun x=>g x || Bl (Du y lanes order g b y.buses.length) x)
  | 0,i,h,hi=>by omega
  | n+1,i,h,hi=>by
    rw [AF]
    rw [show(DA y lanes order broken).yard=y from rfl,Bs]
    by_cases hx:i<y.buses.length
    · have h0:(0:Int)≤(i:Int):=by omega
      have h8:(i:Int)<8:=by omega
      have hni:Bl (Du y lanes order g b i) (i:Int)=false:=by
        cases hq:Bl (Du y lanes order g b i) (i:Int) with
        | false=>rfl
        | true =>
          have hm:(i:Int)∈Du y lanes order g b i:=by simpa [Bl] using hq
          have:=(List.mem_filter.1 hm).1
          rw [A8] at this
          omega
      have ih:=IC y lanes order broken hl hb g b hbb n (i+1) (by omega) (by omega)
      have hs:Du y lanes order g b (i+1)=if !g (i:Int) && P1 lanes order (i:Int) b then Du y lanes order g b i++[(i:Int)] else Du y lanes order g b i:=by
        unfold Du
        rw [Ee,List.filter_append]
        cases hq:(!g (i:Int) && P1 lanes order (i:Int) b) <;> simp [hq]
      simp only [hx,decide_true,cond_true,NH h0 h8,L8 _ h0 h8,Option.bind_some,hni,Bool.or_false]
      rw [Dq i (by omega)]
      have hlen:(Du y lanes order g b i).length≤i:=by
        unfold Du
        exact Nat.le_trans (List.length_filter_le _ _) (by rw [BS]; exact Nat.le_refl _)
      have hbf:=Qy n y lanes order broken hl hb (c:=(i:Int)) (b:=b) (by rw [A8]; omega) hbb
      cases hg:g (i:Int) with
      | true =>
        rw [hg] at hs
        simp only [Bool.not_true,Bool.false_and,Bool.false_eq_true,if_false] at hs
        rw [hs] at ih
        simpa using ih
      | false =>
        rw [hg] at hs
        simp only [Bool.not_false,Bool.true_and] at hs
        simp only [Bool.not_false,cond_true,hbf,Option.bind_some]
        cases hq:P1 lanes order (i:Int) b with
        | false =>
          rw [hq] at hs
          simp only [Bool.false_eq_true,if_false] at hs
          rw [hs] at ih
          simpa using ih
        | true =>
          rw [hq] at hs
          simp only [if_true] at hs
          simp only [cond_true]
          rw [EU _ _ (by simp; omega)]
          simp only [Option.bind_some,Js _ h0 h8]
          have e2:(Bm fun x=>if x=(i:Int) then true else(g x || Bl (Du y lanes order g b i) x))=Bm fun x=>g x || Bl (Du y lanes order g b (i+1)) x:=Em fun x=>by
            rw [hs,Ki]
            split <;> simp
          rw [e2,← hs]
          exact ih
    · have:i=y.buses.length:=by omega
      subst this
      simp
def Ch (y:Aj) (lanes order:List Int) (g:Int→Bool) (b:Int):List Int:=Dn (BI (CF order)) (Du y lanes order g b y.buses.length)
theorem Qz {l l':List Int} (h:l.Perm l') (x:Int):Bl l x=Bl l' x:=by
  unfold Bl
  rw [Bool.eq_iff_iff]
  simp [h.mem_iff]
def Hs (y:Aj) (lanes order:List Int) (g:Int→Bool) (b:Int):Int→Bool:=fun x=>if x=b then true else(g x || Bl (Ch y lanes order g b) x)
def AR (y:Aj) (lanes order:List Int):(Int→Bool)→List Int→List (List Int)
  | _,[]=>[]
  | g,b::r=>Ch y lanes order g b::AR y lanes order (Hs y lanes order g b) r
theorem Fx (y:Aj) (lanes order:List Int):∀ (ts:List Int)(g:Int→Bool),(AR y lanes order g ts).length=ts.length
  | [],_=>rfl
  | b::r,g=>by rw [AR,List.length_cons,List.length_cons,Fx]
theorem OB (n:Nat) (y:Aj) (lanes order broken:List Int) (hb:y.buses.length≤8) (ho:order.length≤1000) {c d:Int} (hc:c∈Au y.buses.length) (hd:d∈Au y.buses.length) :
    ∃ e,AI n c d (DA y lanes order broken)=some e∧decide (e<0)=BI (CF order) c d:=by
  rw [A8] at hc hd
  unfold AI DA
  simp only [NH hc.1 (show c<8 by omega),NH hd.1 (show d<8 by omega),Lx _ hc.1 (show c<8 by omega),Lx _ hd.1 (show d<8 by omega),Option.bind_some]
  refine⟨_,rfl,?_⟩
  have h1:=LH order c
  have h2:=LH order d
  rw [It (by omega) (by omega)]
  unfold BI
  by_cases h:CF order c<CF order d
  · rw [decide_eq_true h,decide_eq_true (by omega)]
  · rw [decide_eq_false h,decide_eq_false (by omega)]
theorem Km {y:Aj} {lanes order:List Int} {g:Int→Bool} {b:Int} {k:Nat} {c:Int}:c∈Du y lanes order g b k↔c∈Au k∧g c=false∧P1 lanes order c b=true:=by
  unfold Du
  rw [List.mem_filter]
  simp
theorem EH {y:Aj} {lanes order:List Int} {g:Int→Bool} {b:Int} {c:Int}:c∈Ch y lanes order g b↔c∈Au y.buses.length∧g c=false∧P1 lanes order c b=true:=by
  unfold Ch
  rw [(CX _ _).mem_iff,Km]
theorem Ko (y:Aj) (lanes order:List Int) (g:Int→Bool) (b:Int) (k:Nat):(Du y lanes order g b k).length≤k:=by
  unfold Du
  exact Nat.le_trans (List.length_filter_le _ _) (by rw [BS]; exact Nat.le_refl _)
theorem Jw (n:Nat) (y:Aj) (lanes order broken:List Int) (hl:lanes.length=y.buses.length) (hb:y.buses.length≤8) (ho:order.length≤1000) (hn:30≤n)
    (step:(List (List Int))×As→Int→Option ((List (List Int))×As))
    (hstep:step=fun s x15=>((AF n (DA y lanes order broken) x15 ([]:List Int) 0 s.2).bind fun o_104 =>
      ((AD n o_104.1 (fun(y0:Int)(y1:Int)=>AI n y0 y1 (DA y lanes order broken))).bind fun x42 =>
      ((JO 8 x15).bind fun x44=>((As.setI o_104.2 x15 true).bind fun u_233=>((Ji s.1 ([x42]:List (List Int))).bind fun x48=>some (x48,u_233)))))) ) :
    ∀ (ts:List Int)(out:List (List Int))(g:Int→Bool),(∀ b∈ts,b∈Au y.buses.length)→out.length+ts.length≤1000→∃ u,ts.foldlM step (out,Bm g)=some (out++AR y lanes order g ts,u)
  | [],out,g,_,_=>⟨Bm g,by simp [AR]⟩
  | b::r,out,g,h,hle=>by
    have hbb:=h b (by simp)
    have hbr:=A8.1 hbb
    have e1:=IC y lanes order broken hl hb g b hbb n 0 (by omega) (by omega)
    rw [show((0:Nat):Int)=0 from rfl,show Du y lanes order g b 0=[] from rfl,show(Bm fun x=>g x || Bl [] x)=Bm g from Em fun x=>by simp [Bl]] at e1
    have hlen:=Ko y lanes order g b y.buses.length
    have e2:=KG n (fun y0 y1=>AI n y0 y1 (DA y lanes order broken)) (BI (CF order)) (Du y lanes order g b y.buses.length) (by omega)
      (fun c hc d hd=>OB n y lanes order broken hb ho (Km.1 hc).1 (Km.1 hd).1) (by omega)
    have e3:(Bm fun x=>if x=b then true else(g x || Bl (Du y lanes order g b y.buses.length) x))=Bm (Hs y lanes order g b):=Em fun x=>by
      unfold Hs Ch
      rw [Qz (CX _ _)]
    have hs:step (out,Bm g) b=some (out++[Ch y lanes order g b],Bm (Hs y lanes order g b)):=by
      rw [hstep]
      simp only [e1,Option.bind_some,e2,NH hbr.1 (show b<8 by omega),Js _ hbr.1 (show b<8 by omega),e3]
      rw [EU _ _ (by simp at hle ⊢; omega)]
      rfl
    obtain⟨u,ih⟩:=Jw n y lanes order broken hl hb ho hn step hstep r (out++[Ch y lanes order g b]) (Hs y lanes order g b) (fun z hz=>h z (by simp [hz])) (by simp at hle ⊢; omega)
    refine⟨u,?_⟩
    rw [List.foldlM_cons,hs]
    show(r.foldlM step (out++[Ch y lanes order g b],Bm (Hs y lanes order g b)))=_
    rw [ih,AR,List.append_assoc]
    rfl
theorem LI (n:Nat) (y:Aj) (lanes order broken:List Int) (hl:lanes.length=y.buses.length) (hb:y.buses.length≤8) (hv:y.buses.all Ds=true) (ho:order.length≤1000) (hn:30≤n) :
    Bv n (DA y lanes order broken)=some (AR y lanes order (fun _=>false) (Cs y (Bl broken))):=by
  unfold Bv
  rw [show(DA y lanes order broken).yard=y from rfl,show(DA y lanes order broken).broken=Bm (Bl broken) from rfl,QR n y _ hb hv (by omega),Option.bind_some]
  have hlen:=GT y (Bl broken)
  obtain⟨u,h1⟩:=Jw n y lanes order broken hl hb ho hn _ rfl (Cs y (Bl broken)) [] (fun _=>false) (fun b hbm=>(Dt.1 hbm).1) (by simp; omega)
  have h2:=Qx n _ (([]:List (List Int)),Bm fun _=>false) (Cs y (Bl broken)) (by omega) (by omega) |>.trans h1
  rw [show(As.mk false false false false false false false false)=Bm (fun _=>false) from rfl]
  rw [h2]
  rfl
end Go.Proofs.Ythcbemnflgjadaa
namespace Go.Proofs.Ythcbemnflgjadaa
open Go Go.RowKit
theorem LJ (y:Aj):∀ (l pre:List Int),pre.Nodup→F8 y pre l=true→(pre++l).Nodup∧∀ b∈l,b∈Au y.buses.length
  | [],pre,hp,_=>by simpa using hp
  | b::r,pre,hp,h=>by
    unfold F8 Nf at h
    simp only [Bool.and_eq_true,Bool.not_eq_true',Bool.or_eq_false_iff] at h
    obtain⟨⟨h1,h2,_⟩,h4⟩:=h
    have hb:b ∉ pre:=by simpa using h2
    have hp':(pre++[b]).Nodup:=by
      rw [List.nodup_append]
      refine⟨hp,by simp,fun a ha c hc=>?_⟩
      simp at hc
      rintro rfl
      exact hb (hc▸ha)
    obtain⟨q1,q2⟩:=LJ y r (pre++[b]) hp' h4
    refine⟨by simpa using q1,fun c hc=>?_⟩
    rcases List.mem_cons.1 hc with rfl | hc
    · exact CY.1 h1
    · exact q2 c hc
theorem P9:∀ (l m:List Int),l.Nodup→(∀ x∈l,x∈m)→m.length≤l.length→∀ x∈m,x∈l
  | [],m,_,_,hl,x,hx=>by
    have:m=[]:=List.eq_nil_of_length_eq_zero (by simpa using hl)
    rw [this] at hx
    simp at hx
  | a::l,m,hn,hs,hl,x,hx=>by
    rw [List.nodup_cons] at hn
    by_cases hxa:x=a
    · simp [hxa]
    · have ha:a∈m:=hs a (by simp)
      refine List.mem_cons_of_mem _ (P9 l (m.erase a) hn.2 (fun z hz=>?_) ?_ x ((List.mem_erase_of_ne hxa).2 hx))
      · have hza:z≠a:=fun h=>hn.1 (h▸hz)
        exact(List.mem_erase_of_ne hza).2 (hs z (by simp [hz]))
      · rw [List.length_erase_of_mem ha]
        simp at hl
        omega
structure Jx (y:Aj) (order:List Int):Prop where
  nd:order.Nodup
  len:order.length=y.buses.length
  mem:∀ b,b∈order↔b∈Au y.buses.length
theorem LK {y:Aj} {order:List Int} (h:F9 y order=true):Jx y order:=by
  unfold F9 at h
  simp only [Bool.and_eq_true,decide_eq_true_eq] at h
  obtain⟨h1,h2⟩:=LJ y order [] List.nodup_nil h.2
  rw [List.nil_append] at h1
  exact⟨h1,h.1,fun b=>⟨h2 b,P9 order (Au y.buses.length) h1 h2 (by rw [BS,h.1]; exact Nat.le_refl _) b⟩⟩
theorem Ja {a:List Int} {b:Int} {r:List Int} (hn:(a++b::r).Nodup):CF (a++b::r) b=a.length∧(∀ c∈a,CF (a++b::r) c<a.length)∧(∀ c∈r,(a.length:Int)<CF (a++b::r) c):=by
  rw [List.nodup_append] at hn
  obtain⟨h1,h2,h3⟩:=hn
  rw [List.nodup_cons] at h2
  have hba:b ∉ a:=fun h=>h3 b h b (by simp) rfl
  refine⟨?_,fun c hc=>?_,fun c hc=>?_⟩
  · unfold CF
    simp [List.idxOf_append,hba]
  · unfold CF
    have hl:=List.idxOf_lt_length_iff.2 hc
    simp [List.idxOf_append,hc]
    omega
  · have hca:c ∉ a:=fun h=>h3 c h c (by simp [hc]) rfl
    have hcb:c≠b:=fun h=>h2.1 (h▸hc)
    unfold CF
    have hbc:(b == c)=false:=by
      cases hq:(b == c) with
      | false=>rfl
      | true=>rw [beq_iff_eq] at hq; exact absurd hq.symm hcb
    simp [List.idxOf_append,hca,hc,List.idxOf_cons,hbc]
    omega
theorem GV:∀ (r a:List Int),(a++r).Nodup→r.Pairwise fun c d=>CF (a++r) c≤CF (a++r) d
  | [],_,_=>List.Pairwise.nil
  | b::r,a,hn=>by
    obtain⟨h1,h2,h3⟩:=Ja hn
    rw [List.pairwise_cons]
    refine⟨fun c hc=>by rw [h1]; exact Int.le_of_lt (h3 c hc),?_⟩
    have:=GV r (a++[b]) (by simpa using hn)
    simpa using this
theorem OC {l:List Int} {a b:Int} (ha:a∈l) (hb:b∈l) (h:CF l a=CF l b):a=b:=by
  unfold CF at h
  simp only [List.contains_iff_mem,ha,hb,if_true] at h
  have h':l.idxOf a=l.idxOf b:=by omega
  have q1:=List.idxOf_lt_length_iff.2 ha
  have q2:=List.idxOf_lt_length_iff.2 hb
  have e1:=List.getElem_idxOf q1
  have e2:=List.getElem_idxOf q2
  rw [← e1,← e2]
  congr 1
def GW (lanes:List Int) (gone:List Int) (b:Int) (rest:List Int):List Int:=(rest.takeWhile fun c=>c != b).filter fun c=>DZ lanes c == DZ lanes b && !gone.contains c
theorem Dh (lanes order:List Int) (hl:lanes.length≤100) (ho:order.length≤100) (hr:∀ c∈order,0≤c∧c<lanes.length) (b:Int) (hb:0≤b∧b<lanes.length) (hn:order.Nodup) (i:Nat):∀ (n k:Nat)(out:List (List Int))(cur:List Int)(gone:List Int),300≤n+k→k≤order.length→out[i]? = some cur→cur.length+order.length≤200+k→gone.length+order.length≤200+k →
    BO n lanes order (i:Int) b out gone (k:Int)=some (out.set i (cur++GW lanes gone b (order.drop k)),gone++GW lanes gone b (order.drop k))
  | 0,k,out,cur,gone,h,hk,_,_,_=>by omega
  | n+1,k,out,cur,gone,h,hk,hi,hc1,hc2=>by
    have hil:i<out.length:=(List.getElem?_eq_some_iff.1 hi).1
    rw [BO,Bs]
    by_cases hx:k<order.length
    · simp only [hx,decide_true,cond_true,BY _ _ hx,Option.bind_some]
      have hck:=hr order[k] (List.getElem_mem hx)
      rw [Dq k (by omega)]
      cases hq:(order[k] != b) with
      | false =>
        have:GW lanes gone b (order.drop k)=[]:=by
          unfold GW
          rw [Bg hx,List.takeWhile_cons,hq]
          rfl
        rw [this]
        simp only [cond_false,List.append_nil]
        have:out.set i cur=out:=by
          apply List.ext_getElem?
          intro j
          by_cases hj:j=i
          · subst hj; rw [List.getElem?_set_self hil,hi]
          · rw [List.getElem?_set_ne (Ne.symm hj)]
        rw [this]
      | true =>
        simp only [cond_true,Jv lanes hck.1 hck.2,Jv lanes hb.1 hb.2,Option.bind_some]
        have hd:GW lanes gone b (order.drop k)=(if DZ lanes order[k] == DZ lanes b && !gone.contains order[k] then [order[k]] else [])++GW lanes gone b (order.drop (k+1)):=by
          unfold GW
          rw [Bg hx,List.takeWhile_cons,hq,if_pos rfl,List.filter_cons]
          split <;> rfl
        rw [hd]
        cases h1:(DZ lanes order[k] == DZ lanes b) with
        | false =>
          simp only [cond_false,Option.bind_some,Bool.false_and,Bool.false_eq_true,if_false,List.nil_append]
          exact Dh lanes order hl ho hr b hb hn i n (k+1) out cur gone (by omega) (by omega) hi (by omega) (by omega)
        | true =>
          simp only [cond_true,P6 n gone _ (by omega) (by omega),Option.bind_some]
          cases h2:gone.contains order[k] with
          | true =>
            simp only [Bool.not_true,cond_false,Bool.and_false,Bool.false_eq_true,if_false,List.nil_append]
            exact Dh lanes order hl ho hr b hb hn i n (k+1) out cur gone (by omega) (by omega) hi (by omega) (by omega)
          | false =>
            have hset:Ba out (i:Int)=some cur:=by rw [R6,hi]
            simp only [Bool.not_false,cond_true,Bool.and_true,if_true,hset,Option.bind_some]
            rw [EU _ _ (by simp; omega)]
            simp only [Option.bind_some]
            rw [So _ _ _ hil]
            simp only [Option.bind_some]
            rw [EU _ _ (by simp; omega)]
            simp only [Option.bind_some]
            rw [Dh lanes order hl ho hr b hb hn i n (k+1) (out.set i (cur++[order[k]])) (cur++[order[k]]) (gone++[order[k]]) (by omega) (by omega) (List.getElem?_set_self hil) (by simp; omega) (by simp; omega)]
            have hsame:GW lanes (gone++[order[k]]) b (order.drop (k+1))=GW lanes gone b (order.drop (k+1)):=by
              unfold GW
              apply List.filter_congr
              intro c hcm
              have hcd:c∈order.drop (k+1):=(List.takeWhile_sublist _).mem hcm
              have hne:c≠order[k]:=by
                have hn2:(order.drop k).Nodup:=List.Pairwise.sublist (List.drop_sublist k order) hn
                rw [Bg hx,List.nodup_cons] at hn2
                exact fun he=>hn2.1 (he▸hcd)
              have:(gone++[order[k]]).contains c=gone.contains c:=by
                rw [Bool.eq_iff_iff]
                simp [hne]
              rw [this]
            rw [hsame,List.set_set,List.append_assoc,List.append_assoc]
    · have:k=order.length:=by omega
      subst this
      have h0:GW lanes gone b (order.drop order.length)=[]:=by simp [GW]
      rw [h0]
      simp only [Nat.lt_irrefl,decide_false,cond_false,Option.bind_some,List.append_nil]
      have:out.set i cur=out:=by
        apply List.ext_getElem?
        intro j
        by_cases hj:j=i
        · subst hj; rw [List.getElem?_set_self hil,hi]
        · rw [List.getElem?_set_ne (Ne.symm hj)]
      rw [this]
theorem Ff {a r:List Int} {b:Int} (h:b ∉ a):(a++b::r).takeWhile (fun c=>c != b)=a:=by
  rw [List.takeWhile_append_of_pos (fun c hc=>by
    have:c≠b:=fun he=>h (he▸hc)
    simp [this]),List.takeWhile_cons]
  simp
theorem PA {y:Aj} {lanes order:List Int} (hO:Jx y order) {g:Int→Bool} {gone:List Int} (hg:∀ x,g x=gone.contains x) {b:Int} (hb:b∈Au y.buses.length):Ch y lanes order g b=GW lanes gone b order:=by
  obtain⟨a,r,rfl⟩:=List.append_of_mem ((hO.mem b).2 hb)
  obtain⟨p1,p2,p3⟩:=Ja hO.nd
  have hba:b ∉ a:=by
    have:=hO.nd
    rw [List.nodup_append] at this
    exact fun h=>this.2.2 b h b (by simp) rfl
  have hna:a.Nodup:=by have:=hO.nd; rw [List.nodup_append] at this; exact this.1
  have key:∀ c,c∈Ch y lanes (a++b::r) g b↔c∈GW lanes gone b (a++b::r):=fun c=>by
    rw [EH]
    unfold GW P1
    rw [Ff hba,List.mem_filter,← hO.mem c]
    simp only [Bool.and_eq_true,beq_iff_eq,decide_eq_true_eq,Bool.not_eq_true',p1,hg]
    constructor
    · rintro⟨h1,h2,h3,h4⟩
      refine⟨?_,h3,h2⟩
      rcases List.mem_append.1 h1 with h1 | h1
      · exact h1
      · rcases List.mem_cons.1 h1 with rfl | h1
        · rw [p1] at h4; omega
        · have:=p3 c h1; omega
    · rintro⟨h1,h2,h3⟩
      exact⟨by simp [h1],h3,h2,p2 c h1⟩
  have hsorted:(GW lanes gone b (a++b::r)).Pairwise fun c d=>CF (a++b::r) c≤CF (a++b::r) d:=by
    unfold GW
    rw [Ff hba]
    refine List.Pairwise.filter _ ?_
    exact List.Pairwise.sublist (List.sublist_append_left a (b::r)) (GV (a++b::r) [] (by simpa using hO.nd))
  have hnd1:(Ch y lanes (a++b::r) g b).Nodup:=by
    unfold Ch
    rw [(CX _ _).nodup_iff]
    exact List.Pairwise.filter _ (CM _)
  have hnd2:(GW lanes gone b (a++b::r)).Nodup:=by
    unfold GW
    rw [Ff hba]
    exact List.Pairwise.filter _ hna
  exact O6 (fun c hc d hd h=>OC ((hO.mem c).2 (EH.1 hc).1) ((hO.mem d).2 (EH.1 hd).1) h) (IY _ _) hsorted ((List.perm_ext_iff_of_nodup hnd1 hnd2).2 key)
theorem Ge {y:Aj} {lanes order:List Int} (hO:Jx y order) (hl:lanes.length=y.buses.length) (hy:y.buses.length≤8) (ts:List Int) (hts:∀ b∈ts,b∈Au y.buses.length) (htl:ts.length≤8):∀ (n i:Nat)(done:List (List Int))(gone:List Int)(g:Int→Bool),600≤n+i→i≤ts.length→done.length=i→(∀ x,g x=gone.contains x)→gone.length≤9*i →
    ∃ u,Cn n lanes order ts (done++List.replicate (ts.length-i) []) gone (i:Int)=some (done++AR y lanes order g (ts.drop i),u)
  | 0,i,done,gone,g,h,hi,_,_,_=>by omega
  | n+1,i,done,gone,g,h,hi,hd,hg,hgl=>by
    rw [Cn,Bs]
    by_cases hx:i<ts.length
    · simp only [hx,decide_true,cond_true,BY _ _ hx,Option.bind_some]
      have hbm:=hts ts[i] (List.getElem_mem hx)
      have hbr:=A8.1 hbm
      have h1:=Dh lanes order (by omega) (by rw [hO.len]; omega) (fun c hc=>by have:=A8.1 ((hO.mem c).1 hc); omega) ts[i] (by omega) hO.nd i n 0 (done++List.replicate (ts.length-i) []) [] gone (by omega) (by omega)
        (by rw [List.getElem?_append_right (by omega),hd,Nat.sub_self,List.getElem?_replicate,if_pos (by omega)]) (by rw [hO.len]; simp; omega) (by rw [hO.len]; omega)
      rw [show((0:Nat):Int)=0 from rfl,List.drop_zero,List.nil_append] at h1
      have hsh:=PA (lanes:=lanes) hO hg hbm
      rw [h1,Option.bind_some,← hsh]
      have hsl:(Ch y lanes order g ts[i]).length≤8:=by
        unfold Ch
        rw [Cx]
        exact Nat.le_trans (Ko y lanes order g ts[i] _) hy
      rw [EU _ _ (by simp; omega),Option.bind_some,Dq i (by omega),Bg hx,AR]
      have e1:(done++List.replicate (ts.length-i) ([]:List Int)).set i (Ch y lanes order g ts[i])=(done++[Ch y lanes order g ts[i]])++List.replicate (ts.length-(i+1)) []:=by
        rw [List.set_append_right _ _ (by omega),hd,Nat.sub_self,show ts.length-i=(ts.length-(i+1))+1 by omega,List.replicate_succ]
        simp
      rw [e1]
      obtain⟨u,ih⟩:=Ge hO hl hy ts hts htl n (i+1) (done++[Ch y lanes order g ts[i]]) (gone++Ch y lanes order g ts[i]++[ts[i]]) (Hs y lanes order g ts[i]) (by omega) (by omega) (by simp [hd]) (fun x=>by
        unfold Hs
        rw [hg x,Bool.eq_iff_iff]
        by_cases hxe:x=ts[i]
        · simp [hxe]
        · simp [hxe,Bl]) (by simp; omega)
      exact⟨u,by rw [ih,List.append_assoc]; rfl⟩
    · have:i=ts.length:=by omega
      subst this
      exact⟨gone,by simp [AR]⟩
theorem LL (n:Nat) {y:Aj} {lanes order broken:List Int} (hO:Jx y order) (hl:lanes.length=y.buses.length) (hy:y.buses.length≤8) (hbr:broken.length≤20) (hn:600≤n) :
    EX n y lanes order broken=some (AR y lanes order (fun _=>false) (Cs y (Bl broken))):=by
  unfold EX
  have hlen:=GT y (Bl broken)
  rw [NK n y broken (by omega) hbr (by omega),Option.bind_some,SD _ _ (by omega),Option.bind_some]
  obtain⟨u,h1⟩:=Ge hO hl hy (Cs y (Bl broken)) (fun b hb=>(Dt.1 hb).1) (by omega) n 0 [] [] (fun _=>false) (by omega) (by omega) rfl (fun x=>by simp) (by simp)
  rw [show((0:Nat):Int)=0 from rfl,List.drop_zero,List.nil_append,List.nil_append,Nat.sub_zero] at h1
  rw [h1]
  rfl
end Go.Proofs.Ythcbemnflgjadaa
namespace Go.Proofs.Ythcbemnflgjadaa
open Go Go.RowKit
theorem Jy (m:List (List Int)) (hm:m.length≤1000) (hs:m.flatten.length≤1000000):∀ (n i:Nat),m.length<n+i→i≤m.length →
    AN n m (i:Int) ((m.take i).flatten.length:Int)=some (m.flatten.length:Int)
  | 0,i,h,hi=>by omega
  | n+1,i,h,hi=>by
    rw [AN,Bs]
    by_cases hx:i<m.length
    · have e1:(m.take (i+1)).flatten.length=(m.take i).flatten.length+m[i].length:=by
        rw [List.take_succ_eq_append_getElem hx,List.flatten_append,List.length_append]
        simp
      have hle:(m.take (i+1)).flatten.length≤m.flatten.length:=by
        have:=List.take_append_drop (i+1) m
        have h2:=congrArg List.flatten this
        rw [List.flatten_append] at h2
        rw [← h2,List.length_append]
        omega
      simp only [hx,decide_true,cond_true,BY _ _ hx,Option.bind_some]
      rw [Dq i (by omega),It (by omega) (by omega),show((m.take i).flatten.length:Int)+(m[i].length:Int)=((m.take (i+1)).flatten.length:Int) by omega]
      rw [show decide (((m.take (i+1)).flatten.length:Int)<0)=false from decide_eq_false (by omega),cond_false]
      exact Jy m hm hs n (i+1) (by omega) (by omega)
    · have:i=m.length:=by omega
      subst this
      simp
theorem Jz (m:List (List Int)) (hm:m.length≤1000) (hs:m.flatten.length≤1000000):∀ (n i:Nat),m.length<n+i→i≤m.length →
    AO n m (m.take i).flatten (i:Int)=some m.flatten
  | 0,i,h,hi=>by omega
  | n+1,i,h,hi=>by
    rw [AO,Bs]
    by_cases hx:i<m.length
    · have e1:(m.take (i+1)).flatten=(m.take i).flatten++m[i]:=by
        rw [List.take_succ_eq_append_getElem hx,List.flatten_append]
        simp
      have hle:(m.take (i+1)).flatten.length≤m.flatten.length:=by
        have:=List.take_append_drop (i+1) m
        have h2:=congrArg List.flatten this
        rw [List.flatten_append] at h2
        rw [← h2,List.length_append]
        omega
      simp only [hx,decide_true,cond_true,BY _ _ hx,Option.bind_some]
      rw [EU _ _ (by rw [e1,List.length_append] at hle; omega),Option.bind_some,Dq i (by omega),← e1]
      exact Jz m hm hs n (i+1) (by omega) (by omega)
    · have:i=m.length:=by omega
      subst this
      simp
theorem Q0 (n:Nat) (m:List (List Int)) (hm:m.length≤1000) (hs:m.flatten.length≤1000000) (hn:m.length<n):Bq n m=some m.flatten:=by
  unfold Bq
  have e1:=Jy m hm hs n 0 (by omega) (by omega)
  have e2:=Jz m hm hs n 0 (by omega) (by omega)
  simp only [List.take_zero,List.flatten_nil,List.length_nil] at e1 e2
  rw [show((0:Nat):Int)=0 from rfl] at e1 e2
  rw [e1,Option.bind_some]
  unfold Ql
  rw [if_pos ⟨by omega,by omega⟩,Option.bind_some,e2]
  rfl
theorem J0 (a:List Int) (ha:a.length≤1000):∀ (n i:Nat),a.length<n+i→i≤a.length→Dz n a a (i:Int)=some (Ex.go ())
  | 0,i,h,hi=>by omega
  | n+1,i,h,hi=>by
    rw [Dz,Bs]
    by_cases hx:i<a.length
    · simp only [hx,decide_true,cond_true,BY _ _ hx,Option.bind_some,bne_self_eq_false,cond_false]
      rw [Dq i (by omega)]
      exact J0 a ha n (i+1) (by omega) (by omega)
    · have:i=a.length:=by omega
      subst this
      simp
theorem Q1 (n:Nat) (a:List Int) (ha:a.length≤1000) (hn:a.length<n):FB n a a=some true:=by
  unfold FB
  have e1:=J0 a ha n 0 (by omega) (by omega)
  rw [show((0:Nat):Int)=0 from rfl] at e1
  rw [bne_self_eq_false,cond_false,e1]
  rfl
theorem ID (y:Aj) (lanes order:List Int):∀ (ts:List Int)(g:Int→Bool),(AR y lanes order g ts).flatten.Nodup∧∀ c∈(AR y lanes order g ts).flatten,g c=false∧c∈Au y.buses.length
  | [],g=>by simp [AR]
  | b::r,g=>by
    obtain⟨h1,h2⟩:=ID y lanes order r (Hs y lanes order g b)
    rw [AR,List.flatten_cons]
    have hg:∀ c∈(AR y lanes order (Hs y lanes order g b) r).flatten,c ∉ Ch y lanes order g b∧g c=false∧c∈Au y.buses.length:=fun c hc=>by
      obtain⟨q1,q2⟩:=h2 c hc
      unfold Hs at q1
      split at q1
      · cases q1
      · simp only [Bool.or_eq_false_iff] at q1
        exact⟨by simpa [Bl] using q1.2,q1.1,q2⟩
    refine⟨?_,fun c hc=>?_⟩
    · rw [List.nodup_append]
      refine⟨?_,h1,fun c hc d hd=>?_⟩
      · unfold Ch
        rw [(CX _ _).nodup_iff]
        exact List.Pairwise.filter _ (CM _)
      · rintro rfl
        exact(hg c hd).1 hc
    · rcases List.mem_append.1 hc with hc | hc
      · have:=EH.1 hc
        exact⟨this.2.1,this.1⟩
      · exact(hg c hc).2
def EI (y:Aj) (lanes order broken:List Int):List (List Int):=AR y lanes order (fun _=>false) (Cs y (Bl broken))
def Er (y:Aj) (lanes order broken:List Int):List Int:=(Au y.buses.length).filter (Bl (EI y lanes order broken).flatten)
theorem IE:∀ n,(Au n).Pairwise (·≤·)
  | 0=>by simp [Au]
  | n+1=>by
    rw [Ee,List.pairwise_append]
    refine⟨IE n,by simp,fun a ha b hb=>?_⟩
    rw [A8] at ha
    simp at hb
    omega
theorem LM {y:Aj} {m:List Int} (hn:m.Nodup) (hm:∀ c∈m,c∈Au y.buses.length):m.length≤y.buses.length:=by
  rcases Nat.lt_or_ge y.buses.length m.length with h | h
  · exfalso
    have h2:=P9 (m.take y.buses.length) (Au y.buses.length) (List.Pairwise.sublist (List.take_sublist _ _) hn) (fun x hx=>hm x (List.mem_of_mem_take hx)) (by rw [BS,List.length_take]; omega)
    have h3:=hm _ (List.getElem_mem h)
    have h4:=h2 _ h3
    have h5:(m.take y.buses.length++m.drop y.buses.length).Nodup:=by rw [List.take_append_drop]; exact hn
    rw [List.nodup_append] at h5
    exact h5.2.2 _ h4 m[y.buses.length] (by rw [Bg h]; exact List.mem_cons_self) rfl
  · exact h
theorem OD {y:Aj} {m:List Int} (hn:m.Nodup) (hm:∀ c∈m,c∈Au y.buses.length) (hb:y.buses.length≤1000):Mu m=some ((Au y.buses.length).filter (Bl m)):=by
  refine Oz ?_ ?_ ?_
  · refine(List.perm_ext_iff_of_nodup hn (List.Pairwise.filter _ (CM _))).2 fun c=>?_
    rw [List.mem_filter]
    constructor
    · exact fun hc=>⟨hm c hc,by simpa [Bl] using hc⟩
    · exact fun hc=>by simpa [Bl] using hc.2
  · exact List.Pairwise.filter _ (IE _)
  · have:=LM hn hm
    omega
theorem Nh (n:Nat) (y:Aj) (lanes order broken:List Int) (hr:y.room.length≤100) (hb:y.buses.length≤100) (h1:lanes.length≤100) (h2:order.length≤100) (h3:broken.length≤100) (hn:200≤n) :
    Cy n y lanes order broken=some (if Bf y lanes order broken=0 then Er y lanes order broken else [],Bf y lanes order broken):=by
  unfold Cy
  obtain⟨x,e1,e2⟩:=OA n y lanes order broken hr hb h1 h2 h3 hn
  rw [e1,Option.bind_some]
  by_cases ha:Bf y lanes order broken=0
  · have hf:B2 y=0:=by
      unfold Bf at ha
      split at ha
      · assumption
      · exact ha
    obtain⟨v1,v0,v2,v3,v4,v5,v6⟩:=En hf
    have hok:Ep y lanes order broken=true:=by
      unfold Bf at ha
      rw [if_pos hf] at ha
      split at ha
      · assumption
      · omega
    unfold Ep at hok
    simp only [Bool.and_eq_true] at hok
    have hll:lanes.length=y.buses.length:=by have:=hok.1; unfold Eo at this; simp at this; exact this.1
    rw [e2 ha,ha,bne_self_eq_false,cond_false,LI n y lanes order broken hll v2 v5 (by omega) (by omega),Option.bind_some]
    obtain⟨s1,s2⟩:=ID y lanes order (Cs y (Bl broken)) fun _=>false
    have hfl:=LM s1 (fun c hc=>(s2 c hc).2)
    have htl:=GT y (Bl broken)
    rw [Q0 n _ (by rw [Fx]; omega) (by omega) (by rw [Fx]; omega),Option.bind_some,OD s1 (fun c hc=>(s2 c hc).2) (by omega)]
    rfl
  · have hne:(Bf y lanes order broken != 0)=true:=by simp [ha]
    rw [hne,cond_true,if_neg ha]
theorem PB (n:Nat) (y:Aj) (lanes order broken:List Int) (hr:y.room.length≤100) (hb:y.buses.length≤100) (h1:lanes.length≤100) (h2:order.length≤100) (h3:broken.length≤100) (hn:200≤n) :
    Es n y lanes order broken=some (if Bf y lanes order broken=0 then EI y lanes order broken else [],Bf y lanes order broken):=by
  unfold Es
  obtain⟨x,e1,e2⟩:=OA n y lanes order broken hr hb h1 h2 h3 hn
  rw [e1,Option.bind_some]
  by_cases ha:Bf y lanes order broken=0
  · have hf:B2 y=0:=by
      unfold Bf at ha
      split at ha
      · assumption
      · exact ha
    obtain⟨v1,v0,v2,v3,v4,v5,v6⟩:=En hf
    have hok:Ep y lanes order broken=true:=by
      unfold Bf at ha
      rw [if_pos hf] at ha
      split at ha
      · assumption
      · omega
    unfold Ep at hok
    simp only [Bool.and_eq_true] at hok
    have hll:lanes.length=y.buses.length:=by have:=hok.1; unfold Eo at this; simp at this; exact this.1
    rw [e2 ha,ha,bne_self_eq_false,cond_false,LI n y lanes order broken hll v2 v5 (by omega) (by omega),Option.bind_some]
    rfl
  · have hne:(Bf y lanes order broken != 0)=true:=by simp [ha]
    rw [hne,cond_true,if_neg ha]
theorem GX {y:Aj} {lanes order broken:List Int} (ha:Bf y lanes order broken=0):B2 y=0∧Eo y lanes=true∧lanes.length=y.buses.length∧Jx y order∧FA y broken=true∧F9 y order=true:=by
  have hf:B2 y=0:=by
    unfold Bf at ha
    split at ha
    · assumption
    · exact ha
  have hok:Ep y lanes order broken=true:=by
    unfold Bf at ha
    rw [if_pos hf] at ha
    split at ha
    · assumption
    · omega
  unfold Ep at hok
  simp only [Bool.and_eq_true] at hok
  exact⟨hf,hok.1,by have:=hok.1; unfold Eo at this; simp at this; exact this.1,LK hok.2.1,hok.2.2,hok.2.1⟩
theorem J1 (y:Aj) (lanes order broken:List Int):(Er y lanes order broken).length≤y.buses.length:=by
  unfold Er
  exact Nat.le_trans (List.length_filter_le _ _) (by rw [BS]; exact Nat.le_refl _)
theorem Q2 (l:List Int) (h:l.length≤15):decide ((l.length:Int)>15)=false:=decide_eq_false (by omega)
theorem QU (l:List Int) (h : ¬ l.length≤15):decide ((l.length:Int)>15)=true:=decide_eq_true (by omega)
theorem EV (m:List (List Int)) (e:Int) (hm:m.length≤100) (hl:∀ l∈m,l.length≤100):∀ (n i:Nat),300≤n+i→i≤m.length→Bo n (m,e) m (i:Int)=some (Ex.go ())
  | 0,i,h,hi=>by omega
  | n+1,i,h,hi=>by
    rw [Bo]
    dsimp only
    rw [Bs]
    by_cases hx:i<m.length
    · have:=hl _ (List.getElem_mem hx)
      simp only [hx,decide_true,cond_true,BY _ _ hx,Option.bind_some,Q1 n m[i] (by omega) (by omega),Bool.not_true,cond_false]
      rw [Dq i (by omega)]
      exact EV m e hm hl n (i+1) (by omega) (by omega)
    · have:i=m.length:=by omega
      subst this
      simp
theorem HD (y:Aj) (lanes order:List Int):∀ (ts:List Int)(g:Int→Bool),∀ l∈AR y lanes order g ts,l.length≤y.buses.length
  | [],g,l,h=>by simp [AR] at h
  | b::r,g,l,h=>by
    rw [AR] at h
    rcases List.mem_cons.1 h with rfl | h
    · unfold Ch
      rw [Cx]
      exact Ko _ _ _ _ _ _
    · exact HD y lanes order r _ l h
theorem Kp (y:Aj) (lanes order broken:List Int):DE 700 y lanes order broken=some true:=by
  unfold DE
  rw [PX]
  simp only [Option.bind_some,L7]
  by_cases h1:y.room.length≤6
  rotate_left
  · simp [h1]
  by_cases h2:y.buses.length≤12
  rotate_left
  · simp [h2]
  by_cases h3:lanes.length≤15
  rotate_left
  · simp [h1,h2,QU lanes h3]
  by_cases h4:order.length≤15
  rotate_left
  · simp [h1,h2,Q2 lanes h3,QU order h4]
  by_cases h5:broken.length≤15
  rotate_left
  · simp [h1,h2,Q2 lanes h3,Q2 order h4,QU broken h5]
  simp only [h1,h2,decide_true,Bool.and_self,Bool.not_true,cond_false,Q2 lanes h3,Q2 order h4,Q2 broken h5,Option.bind_some]
  rw [H7 700 y (by omega) (by omega) (by omega),CH 700 lanes (by omega),CH 700 order (by omega),CH 700 broken (by omega)]
  simp only [Option.bind_some]
  rw [PB 700 y lanes order broken (by omega) (by omega) (by omega) (by omega) (by omega) (by omega),QT 700 y lanes order broken (by omega) (by omega) (by omega) (by omega) (by omega) (by omega)]
  simp only [Option.bind_some]
  by_cases ha:Bf y lanes order broken=0
  · obtain⟨hf,hl,hll,hO,_,_⟩:=GX ha
    obtain⟨v1,v0,v2,v3,v4,v5,v6⟩:=En hf
    have htl:=GT y (Bl broken)
    have hml:(EI y lanes order broken).length≤12:=by unfold EI; rw [Fx]; omega
    have e1:=EV (EI y lanes order broken) 0 (by omega) (fun l hl=>by have:=HD y lanes order _ _ l hl; omega) 700 0 (by omega) (by omega)
    rw [show((0:Nat):Int)=0 from rfl] at e1
    rw [ha,if_pos rfl,LL 700 hO hll v2 (by omega) (by omega)]
    simp only [bne_self_eq_false,cond_false,Option.bind_some]
    rw [show AR y lanes order (fun _=>false) (Cs y (Bl broken))=EI y lanes order broken from rfl,bne_self_eq_false,e1]
    simp [Ex.bind]
  · have hne:(Bf y lanes order broken != 0)=true:=by simp [ha]
    rw [hne,if_neg ha]
    simp
end Go.Proofs.Ythcbemnflgjadaa
namespace Go.Proofs.Ythcbemnflgjadaa
open Go Go.RowKit
def QV (words:List (IK .u16)):Prop:=∀ x∈words,0≤x.n∧x.n≤65535
def wd (words:List (IK .u16)) (k:Int):Int:=if words.length=0 then 0 else(words.getD (Int.tmod k (words.length:Int)).toNat ⟨0⟩).n
theorem Dv {k m:Int} (hk:0≤k) (hm:0<m):0≤Int.tmod k m∧Int.tmod k m<m:=by
  rw [Int.tmod_eq_emod_of_nonneg hk]
  exact⟨Int.emod_nonneg _ (by omega),Int.emod_lt_of_pos _ hm⟩
theorem PZ {b:Int} (h:b≠0):nz b=some ():=by unfold nz; rw [if_neg h]
theorem Ly (n:Nat) (words:List (IK .u16)) (hw:QV words) (k:Int) (hk:0≤k):EY n words k=some (wd words k):=by
  unfold EY wd
  by_cases h:words.length=0
  · simp [h]
  · have hm:(0:Int)<(words.length:Int):=by omega
    obtain⟨h1,h2⟩:=Dv hk hm
    have e0:((words.length:Int) == 0)=false:=by
      cases hq:((words.length:Int) == 0) with
      | false=>rfl
      | true=>rw [beq_iff_eq] at hq; omega
    rw [e0,cond_false,PZ (by omega),Option.bind_some,if_neg h]
    obtain⟨j,hj⟩:=Int.eq_ofNat_of_zero_le h1
    rw [hj,BY _ _ (by omega),Option.bind_some]
    have hjl:j<words.length:=by omega
    have:=hw _ (List.getElem_mem hjl)
    rw [It (by omega) (by omega)]
    simp [List.getD_eq_getElem?_getD,List.getElem?_eq_getElem hjl]
theorem G2 {words:List (IK .u16)} (hw:QV words) (k:Int):0≤wd words k∧wd words k≤65535:=by
  unfold wd
  split
  · omega
  · rw [List.getD_eq_getElem?_getD]
    cases hq:words[(Int.tmod k (words.length:Int)).toNat]? with
    | none=>simp
    | some x=>exact hw x (List.mem_of_getElem? hq)
def J2 (y:Aj) (words:List (IK .u16)) (b:Int):Int :=
  if Int.tmod (wd words b) 3=0 then(A9 y b).lo else if Int.tmod (wd words b) 3=1 then(A9 y b).hi
  else(A9 y b).lo+Int.tmod (Int.tdiv (wd words b) 3) ((A9 y b).hi-(A9 y b).lo+1)
def keyOf (y:Aj) (words:List (IK .u16)) (b:Int):Int:=2*J2 y words b+Int.tmod (wd words (2*b+1)) 2
theorem HE {y:Aj} (hv:y.buses.all Ds=true) {words:List (IK .u16)} (hw:QV words) {b:Int} (hb:b∈Au y.buses.length):(A9 y b).lo≤J2 y words b∧J2 y words b≤(A9 y b).hi:=by
  have h1:=H8 hv (CY.2 hb)
  have h2:=G2 hw b
  unfold J2
  split
  · omega
  · split
    · omega
    · have h3:0≤Int.tdiv (wd words b) 3:=Int.tdiv_nonneg h2.1 (by omega)
      have:=Dv h3 (show 0<(A9 y b).hi-(A9 y b).lo+1 by omega)
      omega
def Dw (y:Aj) (words:List (IK .u16)):List Int:=Dn (BI (keyOf y words)) (Au y.buses.length)
theorem LN (t:Int→Int) (x:Int):∀ (A B:List Int)(n:Nat),A.length<n→A.length≤1000000 →
    CJ n (A.reverse++x::B) ((A.reverse++x::B).map t) (A.length:Int)=some ((G0 (BI t) x A).reverse++B,((G0 (BI t) x A).reverse++B).map t)
  | _,_,0,h,_=>by omega
  | [],B,n+1,_,_=>by
    rw [CJ]
    simp [G0]
  | y::A,B,n+1,h,hl=>by
    have hl':A.length+1≤1000000:=by simpa using hl
    have e0:(y::A).reverse++x::B=A.reverse++y::x::B:=by simp
    have e1:(y::A).reverse++x::B=(A.reverse++[y])++x::B:=by simp
    have m0:((y::A).reverse++x::B).map t=A.reverse.map t++t y::t x::B.map t:=by simp
    have m1:((y::A).reverse++x::B).map t=(A.reverse.map t++[t y])++t x::B.map t:=by simp
    have hk:(A.reverse++[y]).length=A.length+1:=by simp
    have hkm:(A.reverse.map t++[t y]).length=A.length+1:=by simp
    have i1:Ba ((y::A).reverse++x::B) ((A.length+1:Nat):Int)=some x:=by rw [e1,DX _ _ _ hk.symm]
    have i2:Ba ((y::A).reverse++x::B) (A.length:Int)=some y:=by rw [e0,DX _ _ _ (by simp)]
    have u1:upd ((y::A).reverse++x::B) ((A.length+1:Nat):Int) y=some (A.reverse++y::y::B):=by rw [e1,Gd _ _ _ _ hk.symm]; simp
    have i3:Ba (A.reverse++y::y::B) (A.length:Int)=some y:=DX _ _ _ (by simp)
    have u2:upd (A.reverse++y::y::B) (A.length:Int) x=some (A.reverse++x::y::B):=Gd _ _ _ _ (by simp)
    have j1:Ba (((y::A).reverse++x::B).map t) ((A.length+1:Nat):Int)=some (t x):=by rw [m1,DX _ _ _ hkm.symm]
    have j2:Ba (((y::A).reverse++x::B).map t) (A.length:Int)=some (t y):=by rw [m0,DX _ _ _ (by simp)]
    have v1:upd (((y::A).reverse++x::B).map t) ((A.length+1:Nat):Int) (t y)=some (A.reverse.map t++t y::t y::B.map t):=by rw [m1,Gd _ _ _ _ hkm.symm]; simp
    have j3:Ba (A.reverse.map t++t y::t y::B.map t) (A.length:Int)=some (t y):=DX _ _ _ (by simp)
    have v2:upd (A.reverse.map t++t y::t y::B.map t) (A.length:Int) (t x)=some (A.reverse.map t++t x::t y::B.map t):=Gd _ _ _ _ (by simp)
    have w1:IntKind.i64.wrap (((A.length+1:Nat):Int)-1)=(A.length:Int):=by rw [It (by omega) (by omega)]; omega
    have g1:decide (((A.length+1:Nat):Int)>0)=true:=decide_eq_true (by omega)
    rw [CJ,List.length_cons]
    simp only [g1,cond_true,i1,i2,j1,j2,w1,Option.bind_some]
    rw [show decide (t x<t y)=BI t x y from rfl]
    unfold G0
    cases hx:BI t x y with
    | false=>simp
    | true =>
      simp only [cond_true,u1,i3,u2,v1,j3,v2,Option.bind_some,if_true]
      have ih:=LN t x A (y::B) n (by simp at h; omega) (by omega)
      rw [show(A.reverse++x::y::B).map t=A.reverse.map t++t x::t y::B.map t by simp] at ih
      rw [ih]
      simp
theorem LO {y:Aj} (hb:y.buses.length≤100) (hv:y.buses.all Ds=true) {words:List (IK .u16)} (hw:QV words):∀ (n i:Nat),300≤n+i→i≤y.buses.length →
    D1 n y words (Dn (BI (keyOf y words)) (Au i)) ((Dn (BI (keyOf y words)) (Au i)).map (keyOf y words)) (i:Int)=some (Dw y words,(Dw y words).map (keyOf y words))
  | 0,i,h,hi=>by omega
  | n+1,i,h,hi=>by
    rw [D1,Bs]
    by_cases hx:i<y.buses.length
    · have hm:(i:Int)∈Au y.buses.length:=by rw [A8]; omega
      have h1:=H8 hv (CY.2 hm)
      have h2:=G2 hw (i:Int)
      have h3:=G2 hw (2*(i:Int)+1)
      have hmr:=HE hv hw hm
      have hbus:Ba y.buses (i:Int)=some (A9 y (i:Int)):=Gc y (CY.2 hm)
      have hlen:(Dn (BI (keyOf y words)) (Au i)).length=i:=by rw [Cx,BS]
      have w0:IntKind.i64.wrap ((A9 y (i:Int)).hi-(A9 y (i:Int)).lo)=(A9 y (i:Int)).hi-(A9 y (i:Int)).lo:=It (by omega) (by omega)
      have w1:IntKind.i64.wrap ((A9 y (i:Int)).hi-(A9 y (i:Int)).lo+1)=(A9 y (i:Int)).hi-(A9 y (i:Int)).lo+1:=It (by omega) (by omega)
      have hd0:0≤Int.tdiv (wd words (i:Int)) 3:=Int.tdiv_nonneg h2.1 (by omega)
      have hd1:Int.tdiv (wd words (i:Int)) 3≤65535:=by
        rw [Int.tdiv_eq_ediv_of_nonneg h2.1]; omega
      have w2:IntKind.i64.wrap (Int.tdiv (wd words (i:Int)) 3)=Int.tdiv (wd words (i:Int)) 3:=It (by omega) (by omega)
      have hsel:((bif Int.tmod (wd words (i:Int)) 3 == 0 then some (A9 y (i:Int)).lo else(bif Int.tmod (wd words (i:Int)) 3 == 1 then some (A9 y (i:Int)).hi else
          some (IntKind.i64.wrap ((A9 y (i:Int)).lo+Int.tmod (Int.tdiv (wd words (i:Int)) 3) ((A9 y (i:Int)).hi-(A9 y (i:Int)).lo+1))))):Option Int)=some (J2 y words (i:Int)):=by
        unfold J2
        by_cases c0:Int.tmod (wd words (i:Int)) 3=0
        · simp [c0]
        · by_cases c1:Int.tmod (wd words (i:Int)) 3=1
          · simp [c0,c1]
          · have:=Dv hd0 (show 0<(A9 y (i:Int)).hi-(A9 y (i:Int)).lo+1 by omega)
            rw [if_neg c0,if_neg c1]
            have b0:(Int.tmod (wd words (i:Int)) 3 == 0)=false:=by simp [c0]
            have b1:(Int.tmod (wd words (i:Int)) 3 == 1)=false:=by simp [c1]
            rw [b0,b1,cond_false,cond_false,It (by omega) (by omega)]
      have w3:IntKind.i64.wrap (2*(i:Int))=2*(i:Int):=It (by omega) (by omega)
      have w4:IntKind.i64.wrap (2*(i:Int)+1)=2*(i:Int)+1:=It (by omega) (by omega)
      have w5:IntKind.i64.wrap (2*J2 y words (i:Int))=2*J2 y words (i:Int):=It (by omega) (by omega)
      have ht:=Dv h3.1 (show(0:Int)<2 by omega)
      have w6:IntKind.i64.wrap (2*J2 y words (i:Int)+Int.tmod (wd words (2*(i:Int)+1)) 2)=keyOf y words (i:Int):=It (by omega) (by omega)
      simp only [hx,decide_true,cond_true,hbus,Ly n words hw (i:Int) (by omega),Option.bind_some,w0,w1,w2,PZ (show(A9 y (i:Int)).hi-(A9 y (i:Int)).lo+1≠0 by omega),hsel,w3,w4,Ly n words hw (2*(i:Int)+1) (by omega),w5,w6]
      rw [EU _ _ (by simp [hlen]; omega)]
      simp only [Option.bind_some]
      rw [EU _ _ (by simp [hlen]; omega)]
      simp only [Option.bind_some]
      have h4:=LN (keyOf y words) (i:Int) (Dn (BI (keyOf y words)) (Au i)).reverse [] n (by rw [List.length_reverse,hlen]; omega) (by rw [List.length_reverse,hlen]; omega)
      rw [List.reverse_reverse,List.length_reverse,hlen,List.append_nil,List.map_append] at h4
      rw [show(Dn (BI (keyOf y words)) (Au i)).map (keyOf y words)++[keyOf y words (i:Int)]=(Dn (BI (keyOf y words)) (Au i)).map (keyOf y words)++[(i:Int)].map (keyOf y words) from rfl,h4,Option.bind_some,Dq i (by omega)]
      have e1:(G0 (BI (keyOf y words)) (i:Int) (Dn (BI (keyOf y words)) (Au i)).reverse).reverse=Dn (BI (keyOf y words)) (Au (i+1)):=by
        rw [Ee,Kk]; rfl
      rw [e1]
      exact LO hb hv hw n (i+1) (by omega) (by omega)
    · have:i=y.buses.length:=by omega
      subst this
      simp [Dw]
theorem RC (n:Nat) {y:Aj} (hb:y.buses.length≤100) (hv:y.buses.all Ds=true) {words:List (IK .u16)} (hw:QV words) (hn:300≤n):HG n y words=some (Dw y words):=by
  unfold HG
  have e1:=LO hb hv hw n 0 (by omega) (by omega)
  rw [show((0:Nat):Int)=0 from rfl,show Dn (BI (keyOf y words)) (Au 0)=[] from rfl,List.map_nil] at e1
  rw [e1]
  rfl
theorem LP (y:Aj):∀ (l pre:List Int),(pre++l).Nodup→(∀ b∈l,b∈Au y.buses.length)→(pre++l).Pairwise (fun a b=>(A9 y a).lo≤(A9 y b).hi)→F8 y pre l=true
  | [],pre,_,_,_=>rfl
  | b::r,pre,hn,hm,hp=>by
    unfold F8 Nf
    have h1:EQ b 0 ((y.buses.length:Int)-1)=true:=CY.2 (hm b (by simp))
    have hn2:=hn
    rw [List.nodup_append] at hn2
    have h2:pre.contains b=false:=by
      have:b ∉ pre:=fun h=>hn2.2.2 b h b (by simp) rfl
      simpa using this
    have hp2:=hp
    rw [List.pairwise_append] at hp2
    have h3:(pre.any fun k=>decide ((A9 y b).hi<(A9 y k).lo))=false:=by
      rw [List.any_eq_false]
      intro k hk
      have:=hp2.2.2 k hk b (by simp)
      simp
      omega
    rw [h1,h2,h3]
    simp only [Bool.or_self,Bool.not_false,Bool.and_self,Bool.true_and]
    exact LP y r (pre++[b]) (by simpa using hn) (fun c hc=>hm c (by simp [hc])) (by simpa using hp)
theorem Q3 {y:Aj} (hv:y.buses.all Ds=true) {words:List (IK .u16)} (hw:QV words):F9 y (Dw y words)=true:=by
  unfold F9
  have hp:=CX (BI (keyOf y words)) (Au y.buses.length)
  have hmem:∀ b,b∈Dw y words↔b∈Au y.buses.length:=fun b=>hp.mem_iff
  have hlen:(Dw y words).length=y.buses.length:=by unfold Dw; rw [Cx,BS]
  rw [decide_eq_true hlen,Bool.true_and]
  refine LP y _ [] ?_ (fun b hb=>(hmem b).1 hb) ?_
  · rw [List.nil_append]
    exact hp.nodup_iff.2 (CM _)
  · rw [List.nil_append]
    refine List.Pairwise.imp_of_mem (fun {a b} ha hb h=>?_) (IY (keyOf y words) (Au y.buses.length))
    have h1:=HE hv hw ((hmem a).1 ha)
    have h2:=HE hv hw ((hmem b).1 hb)
    have h3:=Dv (G2 hw (2*a+1)).1 (show(0:Int)<2 by omega)
    have h4:=Dv (G2 hw (2*b+1)).1 (show(0:Int)<2 by omega)
    unfold keyOf at h
    omega
theorem Jb {y:Aj} (hb:y.buses.length≤100) {words:List (IK .u16)} (hw:QV words):∀ (n i:Nat)(acc:List Int),y.buses.length<n+i→i≤y.buses.length→acc.Pairwise (· < ·)→(∀ b∈acc,0≤b∧b<i)→acc.length≤i→((acc.length:Int)≤y.broken) →
    ∃ l,CK n y words acc (i:Int)=some l∧l.Pairwise (· < ·)∧(∀ b∈l,b∈Au y.buses.length)∧(l.length:Int)≤y.broken
  | 0,i,acc,h,hi,_,_,_,_=>by omega
  | n+1,i,acc,h,hi,h1,h2,h3,h4=>by
    rw [CK,Bs]
    by_cases hx:i<y.buses.length
    · have w1:IntKind.i64.wrap (3*(i:Int))=3*(i:Int):=It (by omega) (by omega)
      have w2:IntKind.i64.wrap (3*(i:Int)+2)=3*(i:Int)+2:=It (by omega) (by omega)
      simp only [hx,decide_true,cond_true]
      rw [w1,w2,Ly n words hw _ (by omega),Dq i (by omega)]
      have skip:=Jb hb hw n (i+1) acc (by omega) (by omega) h1 (fun b hb=>by have:=h2 b hb; omega) (by omega) h4
      by_cases hq:(acc.length:Int)<y.broken
      · rw [decide_eq_true hq]
        simp only [cond_true,Option.bind_some]
        cases hz:(Int.tmod (wd words (3*(i:Int)+2)) 4 == 0) with
        | false=>simpa using skip
        | true =>
          simp only [cond_true]
          rw [EU _ _ (by simp; omega),Option.bind_some]
          refine Jb hb hw n (i+1) (acc++[(i:Int)]) (by omega) (by omega) ?_ (fun b hb=>?_) (by simp; omega) (by simp; omega)
          · rw [List.pairwise_append]
            refine⟨h1,by simp,fun a ha b hb=>?_⟩
            simp at hb
            have:=h2 a ha
            omega
          · rcases List.mem_append.1 hb with hb | hb
            · have:=h2 b hb; omega
            · simp at hb; omega
      · rw [decide_eq_false hq]
        simpa using skip
    · have:i=y.buses.length:=by omega
      subst this
      exact⟨acc,by simp,h1,fun b hb=>by rw [A8]; exact h2 b hb,h4⟩
theorem LQ (y:Aj):∀ (l:List Int)(last:Int),(last::l).Pairwise (· < ·)→(∀ b∈l,b∈Au y.buses.length)→G1 y last l=true
  | [],_,_,_=>rfl
  | b::r,last,hp,hm=>by
    unfold G1
    rw [List.pairwise_cons] at hp
    rw [CY.2 (hm b (by simp)),decide_eq_true (hp.1 b (by simp)),Bool.true_and,Bool.true_and]
    exact LQ y r b hp.2 fun c hc=>hm c (by simp [hc])
theorem RD (n:Nat) {y:Aj} (hb:y.buses.length≤100) (hr:0≤y.broken) {words:List (IK .u16)} (hw:QV words) (hn:y.buses.length<n):∃ l,HH n y words=some l∧FA y l=true∧l.length≤y.buses.length:=by
  unfold HH
  obtain⟨l,e1,e2,e3,e4⟩:=Jb hb hw n 0 [] (by omega) (by omega) List.Pairwise.nil (by simp) (by simp) (by simpa using hr)
  rw [show((0:Nat):Int)=0 from rfl] at e1
  refine⟨l,by rw [e1]; rfl,?_,LM (e2.imp fun h=>Int.ne_of_lt h) e3⟩
  unfold FA
  rw [decide_eq_true e4,Bool.and_true]
  refine LQ y l (-1) ?_ e3
  rw [List.pairwise_cons]
  exact⟨fun b hb=>by have:=A8.1 (e3 b hb); omega,e2⟩
theorem J3 (y:Aj) (x14 here:List Int) (hr:0<y.room.length) (hm:y.room.length≤1000) (hl:here.length=y.room.length):∀ (n k:Nat)(l:Int),y.room.length<n+k→k≤y.room.length→0≤l→l<(y.room.length:Int) →
    ∃ o,C3 n y x14 here (k:Int) l=some o∧0≤o∧o<(y.room.length:Int)
  | 0,k,l,h,hk,_,_=>by omega
  | n+1,k,l,h,hk,h0,h1=>by
    rw [C3,Bs]
    by_cases hx:k<y.room.length
    · obtain⟨j,rfl⟩:=Int.eq_ofNat_of_zero_le h0
      simp only [hx,decide_true,cond_true,BY here j (by omega),BY y.room j (by omega),Option.bind_some]
      cases hq:decide (here[j]≥y.room[j]) with
      | false=>exact⟨_,rfl,h0,h1⟩
      | true =>
        simp only [cond_true,PZ (show((y.room.length:Nat):Int)≠0 by omega),Option.bind_some]
        rw [Dq k (by omega),Dq j (by omega)]
        have:=Dv (show(0:Int)≤((j+1:Nat):Int) by omega) (show(0:Int)<(y.room.length:Int) by omega)
        exact J3 y x14 here hr hm hl n (k+1) _ (by omega) (by omega) this.1 this.2
    · have:k=y.room.length:=by omega
      subst this
      exact⟨l,by simp,h0,h1⟩
theorem KJ (room:List Int):∀ (l pre:List Int)(x:Int),CN room pre (l++[x])=(CN room pre l && (EQ x 0 ((room.length:Int)-1) && decide (((pre++l).count x:Int)<BZ room x)))
  | [],pre,x=>by simp [CN]
  | b::r,pre,x=>by
    rw [List.cons_append,CN,CN,KJ room r (pre++[b]) x]
    simp [Bool.and_assoc]
theorem J4 {y:Aj} (hr0:0<y.room.length) (hr:(y.room.all fun r=>EQ r 0 8)=true) (hm:y.room.length≤100) (hb:y.buses.length≤100) {words:List (IK .u16)} (hw:QV words) (x14:List Int):∀ (n i:Nat)(acc:List Int),400≤n+i→i≤y.buses.length→acc.length=i→CN y.room [] acc=true →
    ∃ r,C4 n y words x14 (Dg y.room.length fun k=>(acc.count k:Int)) acc (i:Int)=some r∧(r=Ex.ret ([],false)∨∃ h l,r=Ex.go (h,l)∧l.length=y.buses.length∧CN y.room [] l=true)
  | 0,i,acc,h,hi,_,_=>by omega
  | n+1,i,acc,h,hi,ha,hR=>by
    rw [C4,Bs]
    by_cases hx:i<y.buses.length
    · have w1:IntKind.i64.wrap (5*(i:Int))=5*(i:Int):=It (by omega) (by omega)
      have w2:IntKind.i64.wrap (5*(i:Int)+1)=5*(i:Int)+1:=It (by omega) (by omega)
      simp only [hx,decide_true,cond_true]
      rw [w1,w2,Ly n words hw _ (by omega),Option.bind_some,PZ (show((y.room.length:Nat):Int)≠0 by omega),Option.bind_some]
      have ht:=Dv (G2 hw (5*(i:Int)+1)).1 (show(0:Int)<(y.room.length:Int) by omega)
      obtain⟨o,e1,e2,e3⟩:=J3 y x14 (Dg y.room.length fun k=>(acc.count k:Int)) hr0 (by omega) (Iu _ _) n 0 _ (by omega) (by omega) ht.1 ht.2
      rw [show((0:Nat):Int)=0 from rfl] at e1
      have hbt:EQ o 0 ((y.room.length:Int)-1)=true:=by rw [C8]; omega
      have er:Ba y.room o=some (BZ y.room o):=by
        have:=Jt (g:=fun k=>y.room.getD k.toNat 0) hbt
        rwa [← LF y.room] at this
      rw [e1]
      simp only [Option.bind_some,Jt hbt,er]
      by_cases hq:(acc.count o:Int)<BZ y.room o
      · have hcl:acc.count o≤100:=Nat.le_trans List.count_le_length (by omega)
        rw [decide_eq_false (show ¬ (acc.count o:Int)≥BZ y.room o by omega),cond_false,NN hbt,Option.bind_some,EU _ _ (by simp; omega),Option.bind_some,Dq i (by omega),It (by omega) (by omega)]
        have e4:(Dg y.room.length fun x=>if x=o then(acc.count o:Int)+1 else(acc.count x:Int))=Dg y.room.length fun k=>((acc++[o]).count k:Int):=by
          congr 1
          funext x
          rw [GU]
          by_cases hxe:x=o
          · rw [if_pos hxe,if_pos hxe,hxe]
          · rw [if_neg hxe,if_neg hxe]; omega
        rw [e4]
        refine J4 hr0 hr hm hb hw x14 n (i+1) (acc++[o]) (by omega) (by omega) (by simp [ha]) ?_
        rw [KJ,hR,hbt,List.nil_append,decide_eq_true hq]
        rfl
      · rw [decide_eq_true (show(acc.count o:Int)≥BZ y.room o by omega),cond_true]
        exact⟨_,rfl,.inl rfl⟩
    · have:i=y.buses.length:=by omega
      exact⟨Ex.go ((Dg y.room.length fun k=>(acc.count k:Int)),acc),by simp [this],.inr ⟨_,acc,rfl,by omega,hR⟩⟩
theorem Q4 (n:Nat) {y:Aj} (hr0:0<y.room.length) (hr:(y.room.all fun r=>EQ r 0 8)=true) (hm:y.room.length≤100) (hb:y.buses.length≤100) {words:List (IK .u16)} (hw:QV words) (hn:400≤n) :
    ∃ l is,FE n y words=some (l,is)∧(is=true→Eo y l=true∧l.length=y.buses.length)∧(is=false→l=[]):=by
  unfold FE
  rw [SD _ _ (by omega),Option.bind_some]
  obtain⟨r,e1,e2⟩:=J4 hr0 hr hm hb hw (List.replicate y.room.length 0) n 0 [] (by omega) (by omega) rfl rfl
  rw [show((0:Nat):Int)=0 from rfl,show(Dg y.room.length fun k=>(([]:List Int).count k:Int))=List.replicate y.room.length 0 from(O8 _).symm] at e1
  rw [e1]
  rcases e2 with rfl | ⟨h,l,rfl,h1,h2⟩
  · exact⟨[],false,rfl,by simp,by simp⟩
  · exact⟨l,true,rfl,fun _=>⟨by unfold Eo; rw [decide_eq_true h1,h2]; rfl,h1⟩,by simp⟩
theorem QW (n:Nat) (y:Aj) (hn:100≤n):G5 n y=some (decide (y.room.length≤6) && decide (y.buses.length≤12) && decide (B2 y=0)):=by
  unfold G5
  rw [PX,Option.bind_some]
  by_cases h1:y.room.length≤6
  · by_cases h2:y.buses.length≤12
    · rw [O0 n y (by omega) (by omega) (by omega) (by omega)]
      by_cases hf:B2 y=0
      · simp [h1,h2,hf]
      · have:(B2 y == 0)=false:=by simp [hf]
        simp [h1,h2,hf,this]
    · simp [h1,h2]
  · simp [h1]
end Go.Proofs.Ythcbemnflgjadaa
namespace Go.Proofs.Ythcbemnflgjadaa
open Go Go.RowKit
def Jc (lanes order:List Int) (c:Int):List Int→Bool
  | []=>false
  | b::r=>P1 lanes order c b || (c != b && Jc lanes order c r)
theorem J5 (y:Aj) (lanes order:List Int) (c:Int):∀ (ts:List Int)(g:Int→Bool),c∈(AR y lanes order g ts).flatten↔c∈Au y.buses.length∧g c=false∧Jc lanes order c ts=true
  | [],g=>by simp [AR,Jc]
  | b::r,g=>by
    rw [AR,List.flatten_cons,List.mem_append,EH,J5 y lanes order c r,Jc]
    unfold Hs
    simp only [Bool.or_eq_true,Bool.and_eq_true,bne_iff_ne]
    constructor
    · rintro(⟨h1,h2,h3⟩ | ⟨h1,h2,h3⟩)
      · exact⟨h1,h2,.inl h3⟩
      · split at h2
        · cases h2
        · rename_i hne
          simp only [Bool.or_eq_false_iff] at h2
          exact⟨h1,h2.1,.inr ⟨hne,h3⟩⟩
    · rintro⟨h1,h2,h3 | ⟨h3,h4⟩⟩
      · exact .inl ⟨h1,h2,h3⟩
      · cases hq:P1 lanes order c b with
        | true=>exact .inl ⟨h1,h2,rfl⟩
        | false =>
          refine .inr ⟨h1,?_,h4⟩
          rw [if_neg h3,h2,Bool.false_or]
          cases hs:Bl (Ch y lanes order g b) c with
          | false=>rfl
          | true =>
            have:c∈Ch y lanes order g b:=by simpa [Bl] using hs
            rw [(EH.1 this).2.2] at hq
            cases hq
theorem PC (lanes order:List Int) (c:Int):P1 lanes order c c=false:=by simp [P1]
theorem LR (key:Int→Int) (lanes order:List Int) (c:Int):∀ ts:List Int,ts.Pairwise (fun a b=>key a<key b)→(Jc lanes order c ts=true↔∃ b∈ts,P1 lanes order c b=true∧(c∈ts→key b<key c))
  | [],_=>by simp [Jc]
  | b::r,hp=>by
    rw [List.pairwise_cons] at hp
    have ih:=LR key lanes order c r hp.2
    rw [Jc]
    simp only [Bool.or_eq_true,Bool.and_eq_true,bne_iff_ne,ih]
    constructor
    · rintro(h | ⟨hne,d,hd,h1,h2⟩)
      · refine⟨b,by simp,h,fun hc=>?_⟩
        rcases List.mem_cons.1 hc with rfl | hc
        · rw [PC] at h; cases h
        · exact hp.1 c hc
      · refine⟨d,by simp [hd],h1,fun hc=>?_⟩
        rcases List.mem_cons.1 hc with rfl | hc
        · exact absurd rfl hne
        · exact h2 hc
    · rintro⟨d,hd,h1,h2⟩
      rcases List.mem_cons.1 hd with rfl | hd
      · exact .inl h1
      · by_cases hcb:c=b
        · exfalso
          have h3:=h2 (by simp [hcb])
          have h4:=hp.1 d hd
          rw [hcb] at h3
          omega
        · exact .inr ⟨hcb,d,hd,h1,fun hc=>h2 (by simp [hc])⟩
theorem Ni:∀ (l s:List Int),Gr s l=false→(∀ t∈l,t ∉ s)∧l.Nodup
  | [],s,_=>by simp
  | t::r,s,h=>by
    unfold Gr at h
    simp only [Bool.or_eq_false_iff] at h
    obtain⟨h1,h2⟩:=h
    obtain⟨q1,q2⟩:=Ni r (s++[t]) h2
    have h1':t ∉ s:=by simpa using h1
    refine⟨fun u hu=>?_,?_⟩
    · rcases List.mem_cons.1 hu with rfl | hu
      · exact h1'
      · exact fun hs=>q1 u hu (by simp [hs])
    · rw [List.nodup_cons]
      exact⟨fun hm=>q1 t hm (by simp),q2⟩
theorem QX {y:Aj} (hd:Gr [] (y.buses.map (·.turn))=false) {a b:Int} (ha:a∈Au y.buses.length) (hb:b∈Au y.buses.length) (h:BT y a=BT y b):a=b:=by
  have hn:=(Ni _ _ hd).2
  rw [A8] at ha hb
  have hal:a.toNat<(y.buses.map (·.turn)).length:=by rw [List.length_map]; omega
  have hbl:b.toNat<(y.buses.map (·.turn)).length:=by rw [List.length_map]; omega
  have h1:(y.buses.map (·.turn))[a.toNat]=(y.buses.map (·.turn))[b.toNat]:=by
    rw [List.getElem_map,List.getElem_map]
    unfold BT A9 at h
    rw [List.length_map] at hal hbl
    simpa [List.getD_eq_getElem?_getD,List.getElem?_eq_getElem hal,List.getElem?_eq_getElem hbl] using h
  have:=(List.getElem_inj hn).1 h1
  omega
theorem MO {y:Aj} (hd:Gr [] (y.buses.map (·.turn))=false) (f:Int→Bool):(Cs y f).Pairwise fun a b=>BT y a<BT y b:=by
  have h1:=IY (BT y) (LC y f)
  have h2:=NJ y f
  have h3:(Cs y f).Pairwise fun a b=>BT y a≤BT y b∧a≠b:=h1.and h2
  refine List.Pairwise.imp_of_mem (fun {a b} ha hb h=>?_) h3
  rcases Int.lt_or_eq_of_le h.1 with h4 | h4
  · exact h4
  · exact absurd (QX hd (Dt.1 ha).1 (Dt.1 hb).1 h4) h.2
def Sq (y:Aj) (lanes order broken:List Int) (c b:Int):Prop:=b∈Au y.buses.length∧Bl broken b=false∧P1 lanes order c b=true∧(Bl broken c=false→BT y b<BT y c)
theorem LS {y:Aj} (hd:Gr [] (y.buses.map (·.turn))=false) (lanes order broken:List Int) (c:Int):c∈Er y lanes order broken↔c∈Au y.buses.length∧∃ b,Sq y lanes order broken c b:=by
  unfold Er EI
  rw [List.mem_filter]
  have h1:Bl (AR y lanes order (fun _=>false) (Cs y (Bl broken))).flatten c=true↔c∈(AR y lanes order (fun _=>false) (Cs y (Bl broken))).flatten:=by simp [Bl]
  rw [h1,J5,LR (BT y) lanes order c _ (MO hd _)]
  constructor
  · rintro⟨hc,_,_,b,hb,h2,h3⟩
    have hb':=Dt.1 hb
    exact⟨hc,b,hb'.1,hb'.2,h2,fun hq=>h3 (Dt.2 ⟨hc,hq⟩)⟩
  · rintro⟨hc,b,hb,h2,h3,h4⟩
    exact⟨hc,hc,rfl,b,Dt.2 ⟨hb,h2⟩,h3,fun hq=>h4 (Dt.1 hq).2⟩
theorem KM (l:List Int) (x:Int) (hl:l.length≤1000):∀ (n i:Nat),l.length<n+i→i≤l.length→∃ r,CR n l x (i:Int)=some r∧(if x∈l.drop i then ∃ k:Int,0≤k∧r=Ex.ret k else r=Ex.go ())
  | 0,i,h,hi=>by omega
  | n+1,i,h,hi=>by
    rw [CR,Bs]
    by_cases hx:i<l.length
    · simp only [hx,decide_true,cond_true,BY _ _ hx,Option.bind_some]
      rw [Dq i (by omega),Bg hx]
      cases hv:(l[i] == x) with
      | true =>
        have:l[i]=x:=by simpa using hv
        exact⟨_,rfl,by rw [if_pos (by simp [this])]; exact⟨_,by omega,rfl⟩⟩
      | false =>
        have hne : ¬ x=l[i]:=fun he=>by rw [he] at hv; simp at hv
        obtain⟨r,h1,h2⟩:=KM l x hl n (i+1) (by omega) (by omega)
        refine⟨r,h1,?_⟩
        simp only [List.mem_cons,hne,false_or]
        exact h2
    · have:i=l.length:=by omega
      subst this
      exact⟨Ex.go (),by simp,by simp⟩
theorem Q5 (n:Nat) {l:List Int} {x:Int} (hl:l.length≤1000) (hn:l.length<n) (hm:x∈l):∃ k,G8 n l x=some k∧0≤k:=by
  unfold G8
  obtain⟨r,h1,h2⟩:=KM l x hl n 0 (by omega) (by omega)
  rw [show((0:Nat):Int)=0 from rfl] at h1
  rw [List.drop_zero,if_pos hm] at h2
  obtain⟨k,hk,rfl⟩:=h2
  exact⟨k,by rw [h1]; rfl,hk⟩
theorem QY {l m:List Int} (hl:l.Nodup) (hs:m.Sublist l) {a b:Int} (ha:a∈m) (hb:b∈m) (h:CF m a<CF m b):CF l a<CF l b:=by
  have hm:m.Nodup:=List.Pairwise.sublist hs hl
  obtain⟨p,r,rfl⟩:=List.append_of_mem hb
  obtain⟨p1,p2,p3⟩:=Ja hm
  have hap:a∈p:=by
    rcases List.mem_append.1 ha with h1 | h1
    · exact h1
    · rcases List.mem_cons.1 h1 with rfl | h1
      · omega
      · have:=p3 a h1; rw [p1] at h; omega
  have h1:l.Pairwise fun c d=>CF l c≤CF l d:=by simpa using GV l [] (by simpa using hl)
  have h2:=List.Pairwise.sublist hs h1
  rw [List.pairwise_append] at h2
  have h3:=h2.2.2 a hap b (by simp)
  have hne:a≠b:=fun he=>by rw [he] at h; omega
  rcases Int.lt_or_eq_of_le h3 with h4 | h4
  · exact h4
  · exact absurd (OC (hs.mem ha) (hs.mem hb) h4) hne
theorem LU (y:Aj) (x:List Int) (hx:x.length≤100) (hy:0<y.buses.length) (hyb:y.buses.length≤100):∀ (n i:Nat),x.length<n+i→i≤x.length →
    BB n y x ((x.take i).filter fun b=>decide (b<((y.buses.length-1:Nat):Int))) (i:Int)=some (x.filter fun b=>decide (b<((y.buses.length-1:Nat):Int)))
  | 0,i,h,hi=>by omega
  | n+1,i,h,hi=>by
    rw [BB,Bs]
    by_cases hi':i<x.length
    · have w1:IntKind.i64.wrap ((y.buses.length:Int)-1)=((y.buses.length-1:Nat):Int):=by rw [It (by omega) (by omega)]; omega
      simp only [hi',decide_true,cond_true,BY _ _ hi',Option.bind_some,w1]
      have ih:=LU y x hx hy hyb n (i+1) (by omega) (by omega)
      rw [List.take_succ_eq_append_getElem hi',List.filter_append] at ih
      rw [Dq i (by omega)]
      have hlen:=List.length_filter_le (fun b=>decide (b<((y.buses.length-1:Nat):Int))) (x.take i)
      rw [List.length_take] at hlen
      cases hq:decide (x[i]<((y.buses.length-1:Nat):Int)) with
      | true =>
        simp only [cond_true]
        rw [EU _ _ (by simp; omega),Option.bind_some,← ih]
        simp [hq]
      | false =>
        simp only [cond_false]
        rw [← ih]
        simp [hq]
    · have:i=x.length:=by omega
      subst this
      simp
theorem LV (y:Aj) (x:List Int) (hx:x.length≤100) (hy:0<y.buses.length) (hyb:y.buses.length≤100):∀ (n i:Nat),x.length<n+i→i≤x.length →
    BC n y x ((x.take i).filter fun b=>decide (b<((y.buses.length-1:Nat):Int))) (i:Int)=some (x.filter fun b=>decide (b<((y.buses.length-1:Nat):Int)))
  | 0,i,h,hi=>by omega
  | n+1,i,h,hi=>by
    rw [BC,Bs]
    by_cases hi':i<x.length
    · have w1:IntKind.i64.wrap ((y.buses.length:Int)-1)=((y.buses.length-1:Nat):Int):=by rw [It (by omega) (by omega)]; omega
      simp only [hi',decide_true,cond_true,BY _ _ hi',Option.bind_some,w1]
      have ih:=LV y x hx hy hyb n (i+1) (by omega) (by omega)
      rw [List.take_succ_eq_append_getElem hi',List.filter_append] at ih
      rw [Dq i (by omega)]
      have hlen:=List.length_filter_le (fun b=>decide (b<((y.buses.length-1:Nat):Int))) (x.take i)
      rw [List.length_take] at hlen
      cases hq:decide (x[i]<((y.buses.length-1:Nat):Int)) with
      | true =>
        simp only [cond_true]
        rw [EU _ _ (by simp; omega),Option.bind_some,← ih]
        simp [hq]
      | false =>
        simp only [cond_false]
        rw [← ih]
        simp [hq]
    · have:i=x.length:=by omega
      subst this
      simp
theorem LW (s t:List Int) (e f:Int) (hs:s.length≤100) (ht:t.length≤100) (hm:∀ c∈t,c∈s):∀ (n i:Nat),300≤n+i→i≤t.length→BX n (s,e) (t,f) (i:Int)=some (Ex.go ())
  | 0,i,h,hi=>by omega
  | n+1,i,h,hi=>by
    rw [BX]
    dsimp only
    rw [Bs]
    by_cases hx:i<t.length
    · obtain⟨k,h1,h2⟩:=Q5 n (by omega) (show s.length<n by omega) (hm _ (List.getElem_mem hx))
      simp only [hx,decide_true,cond_true,BY _ _ hx,Option.bind_some,h1,decide_eq_false (show ¬ k<0 by omega),cond_false]
      rw [Dq i (by omega)]
      exact LW s t e f hs ht hm n (i+1) (by omega) (by omega)
    · have:i=t.length:=by omega
      subst this
      simp
theorem GY (y:Aj) (k:Nat) {b:Int} (h0:0≤b) (hb:b<(k:Int)):A9 (Aj.mk y.room (y.buses.take k) y.broken) b=A9 y b:=by
  unfold A9
  simp only [List.getD_eq_getElem?_getD,List.getElem?_take]
  rw [if_pos (by omega)]
theorem KN (lanes:List Int) (k:Nat) {b:Int} (h0:0≤b) (hb:b<(k:Int)):DZ (lanes.take k) b=DZ lanes b:=by
  unfold DZ
  simp only [List.getD_eq_getElem?_getD,List.getElem?_take]
  rw [if_pos (by omega)]
theorem IF (room:List Int):∀ (l pre r:List Int),CN room pre (l++r)=true→CN room pre l=true
  | [],_,_,_=>rfl
  | b::l,pre,r,h=>by
    rw [List.cons_append,CN] at h
    rw [CN]
    simp only [Bool.and_eq_true] at h ⊢
    exact⟨h.1,h.2.1,IF room l _ r h.2.2⟩
theorem KO:∀ (l s r:List Int),Gr s (l++r)=false→Gr s l=false
  | [],_,_,_=>rfl
  | t::l,s,r,h=>by
    rw [List.cons_append,Gr] at h
    rw [Gr]
    simp only [Bool.or_eq_false_iff] at h ⊢
    exact⟨h.1,KO l _ r h.2⟩
theorem PD {y:Aj} (hf:B2 y=0) (k:Nat):B2 (Aj.mk y.room (y.buses.take k) y.broken)=0:=by
  obtain⟨v1,v0,v2,v3,v4,v5,v6⟩:=En hf
  unfold B2
  have h1:(y.buses.take k).all Ds=true:=List.all_eq_true.2 fun b hb=>List.all_eq_true.1 v5 b (List.mem_of_mem_take hb)
  have h2:Gr [] ((y.buses.take k).map (·.turn))=false:=by
    have e1:y.buses.map (·.turn)=(y.buses.take k).map (·.turn)++(y.buses.drop k).map (·.turn):=by rw [← List.map_append,List.take_append_drop]
    rw [e1] at v6
    exact KO _ _ _ v6
  have h3:=List.length_take_le k y.buses
  rw [if_neg (by simp only [List.length_take]; omega),if_neg (by
    simp only [not_or]
    exact⟨by omega,by rw [v3]; simp,by rw [v4]; simp,by rw [h1]; simp,by rw [h2]; simp⟩)]
theorem PE {y:Aj} {l:List Int} (h:FA y l=true):l.Pairwise (· < ·)∧(∀ b∈l,b∈Au y.buses.length)∧(l.length:Int)≤y.broken:=by
  unfold FA at h
  simp only [Bool.and_eq_true,decide_eq_true_eq] at h
  have key:∀ (l:List Int)(last:Int),G1 y last l=true→(last::l).Pairwise (· < ·)∧∀ b∈l,b∈Au y.buses.length:=by
    intro l
    induction l with
    | nil=>intro last _; simp
    | cons b r ih =>
      intro last hq
      unfold G1 at hq
      simp only [Bool.and_eq_true,decide_eq_true_eq] at hq
      obtain⟨q1,q2⟩:=ih b hq.2.2
      refine⟨?_,fun c hc=>?_⟩
      · rw [List.pairwise_cons]
        refine⟨fun c hc=>?_,q1⟩
        rcases List.mem_cons.1 hc with rfl | hc
        · exact hq.2.1
        · rw [List.pairwise_cons] at q1
          have:=q1.1 c hc
          omega
      · rcases List.mem_cons.1 hc with rfl | hc
        · exact CY.1 hq.1
        · exact q2 c hc
  obtain⟨q1,q2⟩:=key l (-1) h.1
  rw [List.pairwise_cons] at q1
  exact⟨q1.2,q2,h.2⟩
theorem QZ {y:Aj} {l:List Int} (h1:l.Pairwise (· < ·)) (h2:∀ b∈l,b∈Au y.buses.length) (h3:(l.length:Int)≤y.broken):FA y l=true:=by
  unfold FA
  rw [decide_eq_true h3,Bool.and_true]
  refine LQ y l (-1) ?_ h2
  rw [List.pairwise_cons]
  exact⟨fun b hb=>by have:=A8.1 (h2 b hb); omega,h1⟩
theorem LX (y:Aj):∀ (l pre:List Int),F8 y pre l=true→l.Pairwise (fun a b=>(A9 y a).lo≤(A9 y b).hi)∧∀ a∈pre,∀ b∈l,(A9 y a).lo≤(A9 y b).hi
  | [],pre,_=>by simp
  | b::r,pre,h=>by
    unfold F8 Nf at h
    simp only [Bool.and_eq_true,Bool.not_eq_true',Bool.or_eq_false_iff] at h
    obtain⟨⟨h1,h2,h3⟩,h4⟩:=h
    obtain⟨q1,q2⟩:=LX y r (pre++[b]) h4
    have h5:∀ a∈pre,(A9 y a).lo≤(A9 y b).hi:=fun a ha=>by
      have:=List.any_eq_false.1 h3 a ha
      simp at this
      exact this
    refine⟨?_,fun a ha c hc=>?_⟩
    · rw [List.pairwise_cons]
      exact⟨fun c hc=>q2 b (by simp) c hc,q1⟩
    · rcases List.mem_cons.1 hc with rfl | hc
      · exact h5 a ha
      · exact q2 a (by simp [ha]) c hc
theorem LY {y:Aj} {lanes order broken:List Int} (ha:Bf y lanes order broken=0) {k:Nat} (hk:y.buses.length=k+1) :
    Bf (Aj.mk y.room (y.buses.take k) y.broken) (lanes.take k) (order.filter fun b=>decide (b<(k:Int))) (broken.filter fun b=>decide (b<(k:Int)))=0:=by
  obtain⟨hf,hl,hll,hO,hbr,hpo⟩:=GX ha
  have hlen:(y.buses.take k).length=k:=by rw [List.length_take]; omega
  unfold Bf
  rw [if_pos (PD hf k),if_pos]
  unfold Ep
  simp only [Bool.and_eq_true]
  refine⟨?_,?_,?_⟩
  · unfold Eo at hl ⊢
    simp only [Bool.and_eq_true,decide_eq_true_eq] at hl ⊢
    refine⟨by simp only [List.length_take]; omega,?_⟩
    rw [← List.take_append_drop k lanes] at hl
    exact IF _ _ _ _ hl.2
  · have hmem:∀ b,b∈order.filter (fun b=>decide (b<(k:Int)))↔b∈Au k:=fun b=>by
      rw [List.mem_filter,hO.mem,A8,A8,hk]
      simp
      omega
    have hnd:(order.filter fun b=>decide (b<(k:Int))).Nodup:=List.Pairwise.filter _ hO.nd
    have hperm:(order.filter fun b=>decide (b<(k:Int))).Perm (Au k):=(List.perm_ext_iff_of_nodup hnd (CM k)).2 hmem
    unfold F9
    simp only [Bool.and_eq_true,decide_eq_true_eq,hlen]
    refine⟨by rw [hperm.length_eq,BS],LP _ _ [] (by simpa using hnd) (fun b hb=>by simp only [hlen]; exact(hmem b).1 hb) ?_⟩
    rw [List.nil_append]
    unfold F9 at hpo
    simp only [Bool.and_eq_true] at hpo
    refine List.Pairwise.imp_of_mem (fun {a b} ha hb h=>?_) (List.Pairwise.filter _ (LX y order [] hpo.2).1)
    have ha':=A8.1 ((hmem a).1 ha)
    have hb':=A8.1 ((hmem b).1 hb)
    rw [GY y k ha'.1 ha'.2,GY y k hb'.1 hb'.2]
    exact h
  · obtain⟨q1,q2,q3⟩:=PE hbr
    have h1:=List.length_filter_le (fun b=>decide (b<(k:Int))) broken
    refine QZ (List.Pairwise.filter _ q1) (fun b hb=>?_) (by simp only; omega)
    rw [List.mem_filter] at hb
    have h2:=A8.1 (q2 b hb.1)
    simp only [hlen]
    rw [A8]
    simp at hb
    exact⟨h2.1,hb.2⟩
theorem OE {y:Aj} {lanes order broken:List Int} (ha:Bf y lanes order broken=0) {k:Nat} (hk:y.buses.length=k+1) (c:Int)
    (hc:c∈Er (Aj.mk y.room (y.buses.take k) y.broken) (lanes.take k) (order.filter fun b=>decide (b<(k:Int))) (broken.filter fun b=>decide (b<(k:Int)))):c∈Er y lanes order broken:=by
  obtain⟨hf,hl,hll,hO,hbr,hpo⟩:=GX ha
  obtain⟨hf2,_⟩:=GX (LY ha hk)
  have hlen:(y.buses.take k).length=k:=by rw [List.length_take]; omega
  rw [LS (En hf2).2.2.2.2.2.2] at hc
  simp only [hlen] at hc
  obtain⟨hcr,b,hb,h1,h2,h3⟩:=hc
  simp only [hlen] at hb
  have hcr':=A8.1 hcr
  have hb':=A8.1 hb
  rw [LS (En hf).2.2.2.2.2.2]
  have hin:∀ b:Int,b<(k:Int)→Bl (broken.filter fun b=>decide (b<(k:Int))) b=Bl broken b:=fun b hb=>by
    unfold Bl
    rw [Bool.eq_iff_iff]
    simp [hb]
  have hmem:∀ b,b∈Au k→b∈order.filter (fun b=>decide (b<(k:Int))):=fun b hb=>by
    have hb2:=A8.1 hb
    rw [List.mem_filter,hO.mem,A8,hk]
    simp
    omega
  refine⟨by rw [A8]; omega,b,by rw [A8]; omega,by rw [← hin b hb'.2]; exact h1,?_,fun hq=>?_⟩
  · unfold P1 at h2 ⊢
    simp only [Bool.and_eq_true,beq_iff_eq,decide_eq_true_eq] at h2 ⊢
    rw [KN lanes k hcr'.1 hcr'.2,KN lanes k hb'.1 hb'.2] at h2
    exact⟨h2.1,QY hO.nd List.filter_sublist (hmem c hcr) (hmem b hb) h2.2⟩
  · have:=h3 (by rw [hin c hcr'.2]; exact hq)
    unfold BT at this ⊢
    rw [GY y k hb'.1 hb'.2,GY y k hcr'.1 hcr'.2] at this
    exact this
theorem NO (y:Aj) (words:List (IK .u16)) (hw:QV words):Fy 700 y words=some true:=by
  unfold Fy
  rw [QW 700 y (by omega)]
  simp only [Option.bind_some,L7]
  by_cases hf:B2 y=0
  rotate_left
  · simp [hf]
  obtain⟨v1,v0,v2,v3,v4,v5,v6⟩:=En hf
  have v3':=C8.1 v3
  rw [show(decide (y.room.length≤6) && decide (y.buses.length≤12) && decide (B2 y=0))=true by
    rw [decide_eq_true hf,decide_eq_true (show y.room.length≤6 by omega),decide_eq_true (show y.buses.length≤12 by omega)]; rfl]
  obtain⟨lanes,is,e1,e2,e3⟩:=Q4 700 v0 v4 (by omega) (by omega) hw (by omega)
  rw [cond_true,e1]
  simp only [Option.bind_some]
  cases is with
  | false=>simp
  | true =>
    obtain⟨l1,l2⟩:=e2 rfl
    cases hk:y.buses.length with
    | zero=>simp
    | succ k =>
      have z0:(((k+1:Nat):Int) == 0)=false:=by
        cases hq:(((k+1:Nat):Int) == 0) with
        | false=>rfl
        | true=>rw [beq_iff_eq] at hq; omega
      have w1:IntKind.i64.wrap (((k+1:Nat):Int)-1)=(k:Int):=by rw [It (by omega) (by omega)]; omega
      simp only [Bool.not_true,cond_false,Option.bind_some,z0,w1]
      rw [P7 _ _ (by omega),Option.bind_some,RC 700 (by omega) v5 hw (by omega),Option.bind_some]
      obtain⟨broken,d1,d2,d3⟩:=RD 700 (y:=y) (by omega) v3'.1 hw (by omega)
      have hpo:=Q3 v5 hw
      have hO:=LK hpo
      have q1:=LU y (Dw y words) (by rw [hO.len]; omega) (by omega) (by omega) 700 0 (by rw [hO.len]; omega) (by omega)
      have q2:=LV y broken (by omega) (by omega) (by omega) 700 0 (by omega) (by omega)
      rw [show((0:Nat):Int)=0 from rfl,List.take_zero,List.filter_nil,hk,Nat.add_sub_cancel] at q1 q2
      rw [d1,Option.bind_some,q1,Option.bind_some,q2,Option.bind_some,H7 700 y (by omega) (by omega) (by omega),Option.bind_some,CH 700 lanes (by omega),Option.bind_some,
        CH 700 (Dw y words) (by rw [hO.len]; omega),Option.bind_some,CH 700 broken (by omega),Option.bind_some]
      have ha:Bf y lanes (Dw y words) broken=0:=by
        unfold Bf Ep
        rw [if_pos hf,l1,hpo,d2]
        rfl
      have ha2:=LY ha hk
      have hlt:(y.buses.take k).length=k:=by rw [List.length_take]; omega
      have f1:=List.length_filter_le (fun b=>decide (b<(k:Int))) (Dw y words)
      have f2:=List.length_filter_le (fun b=>decide (b<(k:Int))) broken
      rw [Nh 700 y lanes (Dw y words) broken (by omega) (by omega) (by omega) (by rw [hO.len]; omega) (by omega) (by omega),Option.bind_some,P7 _ _ (by omega),Option.bind_some,
        H7 700 (Aj.mk y.room (y.buses.take k) y.broken) (by simp only; omega) (by simp only [hlt]; omega) (by simp only [hlt]; omega),Option.bind_some,CH 700 (lanes.take k) (by rw [List.length_take]; omega),Option.bind_some,
        Nh 700 (Aj.mk y.room (y.buses.take k) y.broken) _ _ _ (by simp only; omega) (by simp only [hlt]; omega) (by rw [List.length_take]; omega) (by rw [hO.len] at f1; omega) (by omega) (by omega),Option.bind_some,ha,ha2]
      simp only [bne_self_eq_false,cond_false,Option.bind_some,if_true]
      have s1:=J1 y lanes (Dw y words) broken
      have s2:=J1 (Aj.mk y.room (y.buses.take k) y.broken) (lanes.take k) ((Dw y words).filter fun b=>decide (b<(k:Int))) (broken.filter fun b=>decide (b<(k:Int)))
      simp only [hlt] at s2
      have e5:=LW (Er y lanes (Dw y words) broken) (Er (Aj.mk y.room (y.buses.take k) y.broken) (lanes.take k) ((Dw y words).filter fun b=>decide (b<(k:Int))) (broken.filter fun b=>decide (b<(k:Int)))) 0 0 (by omega) (by omega) (fun c hc=>OE ha hk c hc) 700 0 (by omega) (by omega)
      rw [show((0:Nat):Int)=0 from rfl] at e5
      rw [e5]
      rfl
end Go.Proofs.Ythcbemnflgjadaa
