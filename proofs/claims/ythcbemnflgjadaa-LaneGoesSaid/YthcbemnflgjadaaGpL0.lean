/- The plain law. -/
import Derived.Test.YthcbemnflgjadaaGpP0
import Derived.KernelRfl
set_option linter.all false
namespace Go.Proofs.Ythcbemnflgjadaa
open Go Go.RowKit
theorem I8 {x:Int} (h0 : -9223372036854775808≤x) (h1:x≤9223372036854775807):IntKind.i64.wrap x=x:=by
  simp [IntKind.wrap,IntKind.bits,IntKind.signed]; omega
theorem Em (i:Nat) (h:i<1000000000000):IntKind.i64.wrap ((i:Int)+1)=((i+1:Nat):Int):=by
  rw [I8 (by omega) (by omega)]; omega
theorem PA {α:Type} (xs:List α) (i:Nat):Bi xs (i:Int)=xs[i]?:=rfl
theorem CW {α:Type} (xs:List α) (i:Nat) (h:i<xs.length):Bi xs (i:Int)=some xs[i]:=by rw [PA,List.getElem?_eq_getElem h]
theorem GH {α:Type} (xs ys:List α) (h:xs.length+ys.length≤1000000000):Kd xs ys=some (xs++ys):=by
  unfold Kd; rw [if_pos (by simpa using h)]
theorem Re {α:Type} (xs:List α) (i:Nat) (y:α) (h:i<xs.length):upd xs (i:Int) y=some (xs.set i y):=by
  show(if i<xs.length then some (xs.set i y) else none)=_
  rw [if_pos h]
theorem R3 {α:Type} (n:Nat) (x:α) (h:n≤1000000000):mk (n:Int) x=some (List.replicate n x):=by
  unfold mk; rw [if_pos (by omega)]; rfl
theorem B7 {α:Type} {xs:List α} {i:Nat} (h:i<xs.length):xs.drop i=xs[i]::xs.drop (i+1):=List.drop_eq_getElem_cons h
theorem BS {α:Type} (xs:List α) (i:Nat):decide ((i:Int)<((xs.length:Nat):Int))=decide (i<xs.length):=by
  by_cases h:i<xs.length <;> simp [h]
theorem Mg {K α:Type} [DecidableEq K] (k j:K) (x:α):∀ l:List (K×α),DU (GR l k x) j=if k=j then some x else DU l j
  | []=>by simp [GR,DU]
  | p::r=>by
    unfold GR
    by_cases h:p.1=k
    · rw [if_pos h]
      simp only [DU]
      by_cases hj:k=j
      · simp [hj]
      · simp [hj,h]
    · rw [if_neg h,DU,DU,Mg k j x r]
      by_cases hj:p.1=j
      · have:k≠j:=fun e=>h (by rw [hj,e])
        simp [hj,this]
      · simp [hj]
theorem Mh {α β:Type} {x:Option α} {v:α} {f:α→Option β} (h:x=some v):x.bind f=f v:=by rw [h]; rfl
theorem MF (l:List Int):(En l).Pairwise (·≤·):=by
  have:=List.pairwise_mergeSort (le:=fun x y:Int=>decide (x≤y)) (fun a b c h1 h2=>by simp at *; omega) (fun a b=>by simp; omega) l
  exact this.imp fun h=>by simpa using h
theorem PB {l l':List Int} (hp:l.Perm l') (hs:l'.Pairwise (·≤·)):En l=l' :=
  List.Perm.eq_of_pairwise (le:=(·≤·)) (fun _ _ _ _ h1 h2=>Int.le_antisymm h1 h2) (MF l) hs ((List.mergeSort_perm l _).trans hp)
theorem Np {l l':List Int} (hp:l.Perm l') (hs:l'.Pairwise (·≤·)) (hl:l.length≤1000000):Lz l=some l':=by
  unfold Lz
  rw [if_pos (by omega),PB hp hs]
def Oo:Al:=⟨[2,2],[⟨100,120,40⟩,⟨110,130,20⟩,⟨125,140,30⟩,⟨150,160,10⟩],0⟩
def PC:BE:=⟨Oo,[0,0,1,1],⟨0,1,2,3,0,0,0,0⟩,⟨false,false,false,false,false,false,false,false⟩⟩
theorem Rf:CB 700 Oo [0,0,1,1] [0,1,2,3] []=some ([0,2],0):=by
  unfold CB
  refine(Mh (v:=(PC,0)) (by kernel_rfl)).trans ?_
  show((Bu 700 PC).bind fun x25=>(Bp 700 x25).bind fun x26=>(Lz x26).bind fun u_80=>some (u_80,0))=_
  refine(Mh (v:=[[2],[0],[],[]]) (by kernel_rfl)).trans ?_
  refine(Mh (v:=[2,0]) (by kernel_rfl)).trans ?_
  exact Mh (Np (by decide) (by decide) (by decide))
theorem Oq:Fe 700=some true:=by
  unfold Fe
  refine(Mh (v:=Oo) rfl).trans ?_
  refine(Mh Rf).trans ?_
  kernel_rfl
theorem F7 (n:Nat) (l:List Int) (h:l.length≤1000):Dj n l=some l:=by
  unfold Dj
  simp [GH [] l (by simp; omega)]
theorem PD (n:Nat) (l:List Int) (h:l.length≤1000):Be n l=some l:=by
  unfold Be
  simp [GH [] l (by simp; omega)]
theorem GW (y:Al) (hb:y.buses.length≤1000):∀ (n i:Nat)(acc:List B6),y.buses.length<n+i→i≤y.buses.length→acc.length=i→Dk n y acc (i:Int)=some (acc++y.buses.drop i)
  | 0,i,acc,h,hi,_=>by omega
  | n+1,i,acc,h,hi,ha=>by
    rw [Dk,BS]
    by_cases hx:i<y.buses.length
    · simp only [hx,decide_true,cond_true,CW _ _ hx,Option.bind_some]
      rw [GH _ _ (by simp; omega)]
      simp only [Option.bind_some]
      rw [Em i (by omega),GW y hb n (i+1) _ (by omega) (by omega) (by simp; omega),B7 hx,List.append_assoc]
      rfl
    · have:i=y.buses.length:=by omega
      simp [this]
theorem Nq (n:Nat) (y:Al) (hr:y.room.length≤1000) (hb:y.buses.length≤1000) (hn:y.buses.length<n):Ga n y=some y:=by
  unfold Ga
  have e1:=GW y hb n 0 [] (by omega) (by omega) rfl
  rw [show((0:Nat):Int)=0 from rfl] at e1
  rw [F7 n _ hr,Option.bind_some,e1]
  simp
def F8 (x lo hi:Int):Bool:=decide (lo≤x) && decide (x≤hi)
theorem CN {x lo hi:Int}:F8 x lo hi=true↔lo≤x∧x≤hi:=by simp [F8]
theorem FT (n:Nat) (x lo hi:Int):FM n x lo hi=some (F8 x lo hi):=by
  unfold FM F8
  rw [show decide (x≥lo)=decide (lo≤x) from rfl]
  cases decide (lo≤x) <;> rfl
theorem FU (n:Nat) (x lo hi:Int):Cb n x lo hi=some (F8 x lo hi):=by
  unfold Cb F8
  cases decide (lo≤x) <;> rfl
def D8 (b:B6):Bool:=F8 b.lo 0 b.hi && (decide (b.hi≤2000) && F8 b.turn 0 2000)
theorem PE (n:Nat) (b:B6):BL n b=some (D8 b):=by
  unfold BL D8
  simp only [FU,Option.bind_some]
  cases F8 b.lo 0 b.hi <;> cases decide (b.hi≤2000) <;> rfl
theorem JM (s:List Int) (f:Int→Option Bool) (g:Int→Bool) (hf:∀ c∈s,f c=some (g c)) (hs:s.length≤1000000):∀ (n i:Nat),s.length<n+i→i≤s.length →
    ∃ r,AF n s f (i:Int)=some r∧(if (s.drop i).any g then ∃ k:Int,0≤k∧r=Ex.ret k else r=Ex.go ())
  | 0,i,h,hi=>by omega
  | n+1,i,h,hi=>by
    rw [AF,BS]
    by_cases hx:i<s.length
    · simp only [hx,decide_true,cond_true,CW _ _ hx,Option.bind_some,hf _ (List.getElem_mem hx)]
      rw [Em i (by omega),B7 hx,List.any_cons]
      cases hv:g s[i] with
      | true=>exact⟨Ex.ret (i:Int),rfl,⟨i,by omega,rfl⟩⟩
      | false =>
        obtain⟨r,h1,h2⟩:=JM s f g hf hs n (i+1) (by omega) (by omega)
        exact⟨r,h1,by rw [Bool.false_or]; exact h2⟩
    · have:i=s.length:=by omega
      subst this
      exact⟨Ex.go (),by simp,by simp⟩
theorem Ot (n:Nat) (l:List Int) (f:Int→Option Bool) (g:Int→Bool) (hf:∀ c∈l,f c=some (g c)) (h:l.length<n) (hs:l.length≤1000000):D0 n l f=some (l.all g):=by
  unfold D0 B3 BJ
  obtain⟨r,h1,h2⟩:=JM l (fun y0=>Cg n y0 f) (fun c=>!g c) (fun c hc=>by unfold Cg; rw [hf c hc]; rfl) hs n 0 (by omega) (by omega)
  rw [show((0:Nat):Int)=0 from rfl] at h1
  rw [h1]
  simp only [List.drop_zero] at h2
  have hn:l.all g=!l.any fun c=>!g c:=by
    rw [List.not_any_eq_all_not]; simp
  rw [hn]
  split at h2
  · rename_i hm
    obtain⟨k,hk,rfl⟩:=h2
    simp [Ex.bind,hm,hk]
  · rename_i hm
    subst h2
    simp [Ex.bind,hm]
theorem JN (s:List B6) (f:B6→Option Bool) (g:B6→Bool) (hf:∀ c∈s,f c=some (g c)) (hs:s.length≤1000000):∀ (n i:Nat),s.length<n+i→i≤s.length →
    ∃ r,A2 n s f (i:Int)=some r∧(if (s.drop i).any g then ∃ k:Int,0≤k∧r=Ex.ret k else r=Ex.go ())
  | 0,i,h,hi=>by omega
  | n+1,i,h,hi=>by
    rw [A2,BS]
    by_cases hx:i<s.length
    · simp only [hx,decide_true,cond_true,CW _ _ hx,Option.bind_some,hf _ (List.getElem_mem hx)]
      rw [Em i (by omega),B7 hx,List.any_cons]
      cases hv:g s[i] with
      | true=>exact⟨Ex.ret (i:Int),rfl,⟨i,by omega,rfl⟩⟩
      | false =>
        obtain⟨r,h1,h2⟩:=JN s f g hf hs n (i+1) (by omega) (by omega)
        exact⟨r,h1,by rw [Bool.false_or]; exact h2⟩
    · have:i=s.length:=by omega
      subst this
      exact⟨Ex.go (),by simp,by simp⟩
theorem Ou (n:Nat) (l:List B6) (f:B6→Option Bool) (g:B6→Bool) (hf:∀ c∈l,f c=some (g c)) (h:l.length<n) (hs:l.length≤1000000):BP n l f=some (l.all g):=by
  unfold BP AM AU
  obtain⟨r,h1,h2⟩:=JN l (fun y0=>Bl n y0 f) (fun c=>!g c) (fun c hc=>by unfold Bl; rw [hf c hc]; rfl) hs n 0 (by omega) (by omega)
  rw [show((0:Nat):Int)=0 from rfl] at h1
  rw [h1]
  simp only [List.drop_zero] at h2
  have hn:l.all g=!l.any fun c=>!g c:=by
    rw [List.not_any_eq_all_not]; simp
  rw [hn]
  split at h2
  · rename_i hm
    obtain⟨k,hk,rfl⟩:=h2
    simp [Ex.bind,hm,hk]
  · rename_i hm
    subst h2
    simp [Ex.bind,hm]
def KH:List Int→List Int→Bool
  | _,[]=>false
  | s,t::r=>s.contains t || KH (s++[t]) r
theorem JO (y:Al) (hb:y.buses.length≤1000):∀ (n i:Nat)(m:List (Int×Bool))(s:List Int),y.buses.length<n+i→i≤y.buses.length→(∀ t,(FC m t false).1=s.contains t) →
    ∃ r,Bs n y (i:Int) m=some r∧(if KH s ((y.buses.drop i).map (·.turn)) then r=Ex.ret 1 else ∃ m',r=Ex.go m')
  | 0,i,m,s,h,hi,_=>by omega
  | n+1,i,m,s,h,hi,hm=>by
    rw [Bs,BS]
    by_cases hx:i<y.buses.length
    · simp only [hx,decide_true,cond_true,CW _ _ hx,Option.bind_some,hm]
      rw [Em i (by omega),B7 hx,List.map_cons,KH]
      cases hv:s.contains y.buses[i].turn with
      | true=>exact⟨_,rfl,rfl⟩
      | false =>
        simp only [cond_false,Bool.false_or]
        refine JO y hb n (i+1) _ (s++[y.buses[i].turn]) (by omega) (by omega) fun t=>?_
        have:=hm t
        unfold FC at this ⊢
        rw [Mg]
        by_cases ht:y.buses[i].turn=t
        · simp [ht]
        · rw [if_neg ht,this]
          simp [Ne.symm ht]
    · have:i=y.buses.length:=by omega
      subst this
      exact⟨Ex.go m,by simp,by simp [KH]⟩
def Cr (y:Al):Int :=
  if 3<y.room.length∨8<y.buses.length then 3
  else if y.room.length=0∨F8 y.broken 0 2=false∨(y.room.all fun r=>F8 r 0 8)=false∨y.buses.all D8=false∨KH [] (y.buses.map (·.turn))=true then 1 else 0
theorem PF (n:Nat) (y:Al) (hr:y.room.length≤1000) (hb:y.buses.length≤1000) (h1:y.room.length<n) (h2:y.buses.length<n):BU n y=some (Cr y):=by
  unfold BU Cr
  have e1:D0 n y.room (fun y0=>B8 n y0)=some (y.room.all fun r=>F8 r 0 8):=Ot n _ _ _ (fun c _=>by unfold B8; rw [FU]; rfl) h1 (by omega)
  have e2:BP n y.buses (fun y0=>BL n y0)=some (y.buses.all D8):=Ou n _ _ _ (fun c _=>PE n c) h2 (by omega)
  obtain⟨r,e3,e4⟩:=JO y hb n 0 [] [] (by omega) (by omega) (fun t=>by simp [FC,DU])
  rw [show((0:Nat):Int)=0 from rfl] at e3
  rw [List.drop_zero] at e4
  have c1:decide (((y.room.length:Nat):Int)>3)=decide (3<y.room.length):=by by_cases h:3<y.room.length <;> simp [h] <;> omega
  have c2:decide (((y.buses.length:Nat):Int)>8)=decide (8<y.buses.length):=by by_cases h:8<y.buses.length <;> simp [h] <;> omega
  have c3:(((y.room.length:Nat):Int) == 0)=decide (y.room.length=0):=by by_cases h:y.room.length=0 <;> simp [h]
  rw [c1,c2,c3]
  by_cases a1:3<y.room.length
  · simp [a1]
  by_cases a2:8<y.buses.length
  · simp [a1,a2]
  simp only [a1,a2,decide_false,cond_false,Option.bind_some,or_self,if_false]
  by_cases a3:y.room.length=0
  · simp [a3]
  simp only [a3,decide_false,cond_false,FU,Option.bind_some,false_or,e1,e2]
  cases a4:F8 y.broken 0 2 with
  | false=>simp
  | true =>
  cases a5:(y.room.all fun r=>F8 r 0 8) with
  | false=>simp
  | true =>
  cases a6:y.buses.all D8 with
  | false=>simp
  | true =>
  simp only [Bool.not_true,cond_false,Option.bind_some,e3]
  cases a7:KH [] (y.buses.map (·.turn)) with
  | true =>
    rw [a7] at e4
    simp only [if_true] at e4
    subst e4
    simp [Ex.bind]
  | false =>
    rw [a7] at e4
    obtain⟨m',rfl⟩:=e4
    simp [Ex.bind]
theorem JP (y:Al) (hb:y.room.length≤1000):∀ (n i:Nat),y.room.length<n+i→i≤y.room.length →
    CG n y (i:Int)=some (if (y.room.drop i).all (fun r=>F8 r 0 8) then Ex.go () else Ex.ret 1)
  | 0,i,h,hi=>by omega
  | n+1,i,h,hi=>by
    rw [CG,BS]
    by_cases hx:i<y.room.length
    · simp only [hx,decide_true,cond_true,CW _ _ hx,Option.bind_some,FT]
      rw [Em i (by omega),B7 hx,List.all_cons]
      cases hv:F8 y.room[i] 0 8 with
      | false=>simp
      | true=>simpa using JP y hb n (i+1) (by omega) (by omega)
    · have:i=y.room.length:=by omega
      subst this
      simp
theorem JQ (y:Al) (hb:y.buses.length≤1000) (k:Nat) (b:B6) (hk:k≤y.buses.length):∀ (n i:Nat),k<n+i→i≤k →
    CH n y (k:Int) b (i:Int)=some (if (((y.buses.take k).drop i).map (·.turn)).contains b.turn then Ex.ret 1 else Ex.go ())
  | 0,i,h,hi=>by omega
  | n+1,i,h,hi=>by
    rw [CH]
    by_cases hx:i<k
    · have hx':i<(y.buses.take k).length:=by rw [List.length_take]; omega
      have hl:i<y.buses.length:=by omega
      simp only [show decide ((i:Int)<(k:Int))=true by simp; omega,cond_true,CW _ _ hl,Option.bind_some]
      rw [Em i (by omega),B7 hx',List.map_cons,List.contains_cons,List.getElem_take]
      cases hv:(y.buses[i].turn == b.turn) with
      | true =>
        have:(b.turn == y.buses[i].turn)=true:=by rw [beq_iff_eq] at hv ⊢; exact hv.symm
        simp [this]
      | false =>
        have:(b.turn == y.buses[i].turn)=false:=by
          cases hq:(b.turn == y.buses[i].turn) with
          | false=>rfl
          | true=>rw [beq_iff_eq] at hq; rw [hq] at hv; simp at hv
        rw [this,Bool.false_or]
        simpa using JQ y hb k b hk n (i+1) (by omega) (by omega)
    · have:i=k:=by omega
      subst this
      simp
theorem JR (y:Al) (hb:y.buses.length≤500):∀ (n i:Nat),2*y.buses.length<n+i→i≤y.buses.length →
    CI n y (i:Int)=some (if (y.buses.drop i).all D8=false∨KH ((y.buses.take i).map (·.turn)) ((y.buses.drop i).map (·.turn))=true then Ex.ret 1 else Ex.go ())
  | 0,i,h,hi=>by omega
  | n+1,i,h,hi=>by
    rw [CI,BS]
    by_cases hx:i<y.buses.length
    · simp only [hx,decide_true,cond_true,CW _ _ hx,Option.bind_some,FT]
      have e1:=JQ y (by omega) i y.buses[i] (by omega) n 0 (by omega) (by omega)
      rw [show((0:Nat):Int)=0 from rfl] at e1
      have e2:=JR y hb n (i+1) (by omega) (by omega)
      rw [Em i (by omega),e1,e2,B7 hx,List.all_cons,List.map_cons,KH,List.drop_zero]
      have e3:(y.buses.take (i+1)).map (·.turn)=(y.buses.take i).map (·.turn)++[y.buses[i].turn]:=by
        rw [List.take_succ_eq_append_getElem hx,List.map_append]; rfl
      rw [e3]
      have e4:decide (y.buses[i].hi>2000)=!decide (y.buses[i].hi≤2000):=by
        by_cases hq:y.buses[i].hi≤2000
        · simp [hq,Int.not_lt.2 hq]
        · simp [hq]; omega
      rw [e4]
      unfold D8
      cases F8 y.buses[i].lo 0 y.buses[i].hi <;> cases decide (y.buses[i].hi≤2000) <;> cases F8 y.buses[i].turn 0 2000 <;> cases ((y.buses.take i).map (·.turn)).contains y.buses[i].turn <;> simp [Ex.bind,D8]
    · have:i=y.buses.length:=by omega
      subst this
      simp [KH]
theorem PG (n:Nat) (y:Al) (hr:y.room.length≤100) (hb:y.buses.length≤100) (h1:y.room.length<n) (h2:2*y.buses.length<n):Gb n y=some (Cr y):=by
  unfold Gb Cr
  have e1:=JP y (by omega) n 0 (by omega) (by omega)
  have e2:=JR y (by omega) n 0 (by omega) (by omega)
  rw [show((0:Nat):Int)=0 from rfl] at e1 e2
  simp only [List.drop_zero,List.take_zero,List.map_nil] at e1 e2
  have c1:decide (((y.room.length:Nat):Int)>3)=decide (3<y.room.length):=by by_cases h:3<y.room.length <;> simp [h] <;> omega
  have c2:decide (((y.buses.length:Nat):Int)>8)=decide (8<y.buses.length):=by by_cases h:8<y.buses.length <;> simp [h] <;> omega
  have c3:decide (((y.room.length:Nat):Int)<1)=decide (y.room.length=0):=by by_cases h:y.room.length=0 <;> simp [h] <;> omega
  rw [c1,c2,c3,e1,e2]
  by_cases a1:3<y.room.length
  · simp [a1]
  by_cases a2:8<y.buses.length
  · simp [a1,a2]
  simp only [a1,a2,decide_false,cond_false,Option.bind_some,or_self,if_false]
  by_cases a3:y.room.length=0
  · simp [a3]
  simp only [a3,decide_false,cond_false,FT,Option.bind_some,false_or]
  cases a4:F8 y.broken 0 2 <;> cases a5:(y.room.all fun r=>F8 r 0 8) <;> cases a6:y.buses.all D8 <;> cases a7:KH [] (y.buses.map (·.turn)) <;> simp [Ex.bind]
theorem Qv (n:Nat) (y:Al):Hd n y=some (decide (y.room.length≤6) && decide (y.buses.length≤12)):=by
  unfold Hd
  by_cases h1:y.room.length≤6 <;> by_cases h2:y.buses.length≤12
  all_goals
    have e1:decide (((y.room.length:Nat):Int)≤6)=decide (y.room.length≤6):=by simp; omega
    have e2:decide (((y.buses.length:Nat):Int)≤12)=decide (y.buses.length≤12):=by simp; omega
    rw [e1,e2]
    simp [h1,h2]
end Go.Proofs.Ythcbemnflgjadaa
namespace Go.Proofs.Ythcbemnflgjadaa
open Go Go.RowKit
def AN (y:Al) (b:Int):B6:=y.buses.getD b.toNat default
theorem HH (y:Al) {b:Int} (h:F8 b 0 ((y.buses.length:Int)-1)=true):Bi y.buses b=some (AN y b):=by
  rw [CN] at h
  obtain⟨k,rfl⟩:=Int.eq_ofNat_of_zero_le h.1
  rw [CW _ _ (by omega)]
  unfold AN
  simp [List.getD_eq_getElem?_getD,List.getElem?_eq_getElem (show k<y.buses.length by omega)]
theorem GX {y:Al} (hv:y.buses.all D8=true) {b:Int} (h:F8 b 0 ((y.buses.length:Int)-1)=true):0≤(AN y b).lo∧(AN y b).lo≤(AN y b).hi∧(AN y b).hi≤2000∧0≤(AN y b).turn∧(AN y b).turn≤2000:=by
  rw [CN] at h
  have hl:b.toNat<y.buses.length:=by omega
  have:D8 (AN y b)=true:=by
    unfold AN
    rw [List.getD_eq_getElem?_getD,List.getElem?_eq_getElem hl]
    exact List.all_eq_true.1 hv _ (List.getElem_mem hl)
  unfold D8 at this
  simp only [Bool.and_eq_true,CN,decide_eq_true_eq] at this
  omega
theorem JS (n:Nat) (y:Al) (b:Int) (h:y.buses.length≤1000):CO n y b=some (F8 b 0 ((y.buses.length:Int)-1)):=by
  unfold CO
  rw [I8 (by omega) (by omega),FU]
  rfl
theorem Qw (n:Nat) (a b:Int):CA (n+2) [a,b]=some (max a b):=by
  have e1:IntKind.i64.wrap 2=2:=by decide
  by_cases h:a<b
  · have:max a b=b:=by omega
    simp [CA,Ch,AY,Bi,e1,h,this]
  · have:max a b=a:=by omega
    simp [CA,Ch,AY,Bi,e1,h,this]
theorem MG {b:Int} (h0:0≤b) (h8:b<8):Jj 8 b=some ():=by
  unfold Jj; rw [if_pos ⟨h0,h8⟩]
theorem OJ {b:Int} (h0:0≤b) (h8:b<8):b=0∨b=1∨b=2∨b=3∨b=4∨b=5∨b=6∨b=7:=by omega
def Bk (f:Int→Bool):Aq:=⟨f 0,f 1,f 2,f 3,f 4,f 5,f 6,f 7⟩
def FV (f:Int→Int):Ao:=⟨f 0,f 1,f 2,f 3,f 4,f 5,f 6,f 7⟩
theorem KI (f:Int→Bool) {b:Int} (h0:0≤b) (h8:b<8):Bi (Bk f).toL b=some (f b):=by
  rcases OJ h0 h8 with h | h | h | h | h | h | h | h <;> subst h <;> rfl
theorem K9 (f:Int→Int) {b:Int} (h0:0≤b) (h8:b<8):Bi (FV f).toL b=some (f b):=by
  rcases OJ h0 h8 with h | h | h | h | h | h | h | h <;> subst h <;> rfl
theorem I9 (f:Int→Bool) {b:Int} (h0:0≤b) (h8:b<8) (v:Bool):Aq.setI (Bk f) b v=some (Bk fun x=>if x=b then v else f x):=by
  rcases OJ h0 h8 with h | h | h | h | h | h | h | h <;> subst h <;> rfl
theorem Qx (f:Int→Int) {b:Int} (h0:0≤b) (h8:b<8) (v:Int):Ao.setI (FV f) b v=some (FV fun x=>if x=b then v else f x):=by
  rcases OJ h0 h8 with h | h | h | h | h | h | h | h <;> subst h <;> rfl
theorem Ea {f g:Int→Bool} (h:∀ b,f b=g b):Bk f=Bk g:=by rw [funext h]
theorem Nr {f g:Int→Int} (h:∀ b,f b=g b):FV f=FV g:=by rw [funext h]
def AH (l:List Int) (b:Int):Bool:=l.contains b
def Cs (l:List Int) (b:Int):Int:=if l.contains b then(l.idxOf b:Int) else 0
theorem Fd (l:List Int) (c b:Int):AH (l++[c]) b=if b=c then true else AH l b:=by
  unfold AH
  by_cases h:b=c
  · subst h; simp
  · simp [h]
theorem Pj (l:List Int) (c:Int) (hc:l.contains c=false) (b:Int):Cs (l++[c]) b=if b=c then(l.length:Int) else Cs l b:=by
  unfold Cs
  by_cases h:b=c
  · subst h
    have hm:b ∉ l:=by simpa using hc
    simp [List.idxOf_append,hm]
  · by_cases hb:b∈l
    · simp [h,hb,List.idxOf_append]
    · simp [h,hb]
def KJ (y:Al) (l:List Int):Int:=l.foldl (fun m b=>max m (AN y b).lo) 0
theorem Ov (y:Al) (l:List Int) (b:Int):KJ y (l++[b])=max (KJ y l) (AN y b).lo:=by
  unfold KJ; rw [List.foldl_append]; rfl
theorem PH (y:Al) (x:Int) (hx:0≤x) (l:List Int):decide (x<KJ y l)=l.any fun k=>decide (x<(AN y k).lo):=by
  have key:∀ (l:List Int)(m:Int),decide (x<l.foldl (fun m b=>max m (AN y b).lo) m)=(decide (x<m) || l.any fun k=>decide (x<(AN y k).lo)):=by
    intro l
    induction l with
    | nil=>intro m; exact(Bool.or_false _).symm
    | cons a r ih =>
      intro m
      rw [List.foldl_cons,ih,List.any_cons,← Bool.or_assoc]
      congr 1
      by_cases h1:x<m <;> by_cases h2:x<(AN y a).lo <;> simp [h1,h2] <;> omega
  unfold KJ
  rw [key]
  simp [Int.not_lt.2 hx]
def OL (y:Al) (pre:List Int) (b:Int):Bool:=F8 b 0 ((y.buses.length:Int)-1) && !(pre.contains b || pre.any fun k=>decide ((AN y b).hi<(AN y k).lo))
def IA (y:Al):List Int→List Int→Bool
  | _,[]=>true
  | pre,b::r=>OL y pre b && IA y (pre++[b]) r
def IB (y:Al) (order:List Int):Bool:=decide (order.length=y.buses.length) && IA y [] order
theorem GY (y:Al) (hb:y.buses.length≤8) (hv:y.buses.all D8=true) (order:List Int) (ho:order.length≤1000):∀ (n i:Nat),order.length+2<n+i→i≤order.length →
    ∃ r,AZ n y order (i:Int) (KJ y (order.take i)) (FV (Cs (order.take i))) (Bk (AH (order.take i)))=some r ∧
      (if IA y (order.take i) (order.drop i) then r=Ex.go (FV (Cs order),Bk (AH order)) else ∃ x,r=Ex.ret (x,false))
  | 0,i,h,hi=>by omega
  | n+1,i,h,hi=>by
    rw [AZ,BS]
    by_cases hx:i<order.length
    · obtain⟨n,rfl⟩:∃ m,n=m+2:=⟨n-2,by omega⟩
      simp only [hx,decide_true,cond_true,CW _ _ hx,Option.bind_some,JS _ y _ (by omega)]
      rw [B7 hx,IA]
      unfold OL
      cases h1:F8 order[i] 0 ((y.buses.length:Int)-1) with
      | false=>exact⟨_,rfl,by simp⟩
      | true =>
        have h1':=CN.1 h1
        have h8:order[i]<8:=by omega
        simp only [Bool.not_true,cond_false,MG h1'.1 h8,Option.bind_some,KI _ h1'.1 h8,HH y h1]
        cases h2:AH (order.take i) order[i] with
        | true =>
          have h2':(order.take i).contains order[i]=true:=h2
          exact⟨_,rfl,by rw [h2']; simp⟩
        | false =>
          have h2':(order.take i).contains order[i]=false:=h2
          simp only [cond_false,Option.bind_some,PH y _ (show 0≤(AN y order[i]).hi by have:=GX hv h1; omega)]
          cases h3:(order.take i).any fun k=>decide ((AN y order[i]).hi<(AN y k).lo) with
          | true=>exact⟨_,rfl,by rw [h2']; simp⟩
          | false =>
            simp only [cond_false,I9 _ h1'.1 h8,Option.bind_some,Qw,Qx _ h1'.1 h8]
            rw [Em i (by omega),← Ov]
            have e1:order.take i++[order[i]]=order.take (i+1):=(List.take_succ_eq_append_getElem hx).symm
            have e2:(Bk fun x=>if x=order[i] then true else AH (order.take i) x)=Bk (AH (order.take (i+1))):=Ea fun b=>by rw [← e1,Fd]
            have e3:(FV fun x=>if x=order[i] then(i:Int) else Cs (order.take i) x)=FV (Cs (order.take (i+1))):=Nr fun b=>by
              rw [← e1,Pj _ _ h2',List.length_take,Nat.min_eq_left (Nat.le_of_lt hx)]
            rw [e1,e2,e3,h2']
            simp only [Bool.or_self,Bool.not_false,Bool.and_self,Bool.true_and]
            exact GY y hb hv order ho (n+2) (i+1) (by omega) (by omega)
    · have:i=order.length:=by omega
      subst this
      simp [IA]
theorem QE:(Ao.mk 0 0 0 0 0 0 0 0)=FV (Cs []):=rfl
theorem QF:(Aq.mk false false false false false false false false)=Bk (AH []):=rfl
theorem Ns (n:Nat) (y:Al) (hb:y.buses.length≤8) (hv:y.buses.all D8=true) (order:List Int) (ho:order.length≤1000) (hn:order.length+2<n) :
    ∃ x,Ci n y order=some (x,IB y order)∧(IB y order=true→x=FV (Cs order)):=by
  unfold Ci IB
  by_cases hl:order.length=y.buses.length
  · obtain⟨r,h1,h2⟩:=GY y hb hv order ho n 0 (by omega) (by omega)
    rw [show((0:Nat):Int)=0 from rfl] at h1
    simp only [List.take_zero,List.drop_zero] at h1 h2
    have e0:KJ y []=0:=rfl
    rw [e0] at h1
    rw [QE,QF,h1]
    rw [show((order.length:Int) != (y.buses.length:Int))=false by simp [hl]]
    simp only [cond_false,Option.bind_some,hl,decide_true,Bool.true_and]
    split at h2
    · rename_i hp
      subst h2
      exact⟨_,by rw [hp]; rfl,fun _=>rfl⟩
    · rename_i hp
      obtain⟨x,rfl⟩:=h2
      exact⟨x,by simp [Ex.bind,hp],fun h=>absurd h hp⟩
  · rw [show((order.length:Int) != (y.buses.length:Int))=true by simp; omega]
    simp only [cond_true]
    exact⟨FV (Cs []),by rw [QE]; simp [hl],fun h=>by simp [hl] at h⟩
theorem Mi (l:List Int) (x:Int) (hl:l.length≤1000):∀ (n i:Nat),l.length<n+i→i≤l.length→DN n l x (i:Int)=some (if (l.drop i).contains x then Ex.ret true else Ex.go ())
  | 0,i,h,hi=>by omega
  | n+1,i,h,hi=>by
    rw [DN,BS]
    by_cases hx:i<l.length
    · simp only [hx,decide_true,cond_true,CW _ _ hx,Option.bind_some]
      rw [Em i (by omega),B7 hx,List.contains_cons,Mi l x hl n (i+1) (by omega) (by omega)]
      cases hv:(l[i] == x) with
      | true =>
        have:(x == l[i])=true:=by rw [beq_iff_eq] at hv ⊢; exact hv.symm
        simp [this]
      | false =>
        have:(x == l[i])=false:=by
          cases hq:(x == l[i]) with
          | false=>rfl
          | true=>rw [beq_iff_eq] at hq; rw [hq] at hv; simp at hv
        simp [this]
    · have:i=l.length:=by omega
      subst this
      simp
theorem Rg (n:Nat) (l:List Int) (x:Int) (hl:l.length≤1000) (hn:l.length<n):IQ n l x=some (l.contains x):=by
  unfold IQ
  have e1:=Mi l x hl n 0 (by omega) (by omega)
  rw [show((0:Nat):Int)=0 from rfl,List.drop_zero] at e1
  rw [e1]
  cases l.contains x <;> rfl
theorem IC {y:Al} (h:Cr y=0):y.room.length≤3∧0<y.room.length∧y.buses.length≤8∧F8 y.broken 0 2=true∧(y.room.all fun r=>F8 r 0 8)=true∧y.buses.all D8=true∧KH [] (y.buses.map (·.turn))=false:=by
  unfold Cr at h
  split at h
  · omega
  · split at h
    · omega
    · rename_i h1 h2
      simp only [not_or] at h2
      simp only [Bool.not_eq_false,Bool.not_eq_true] at h2
      exact⟨by omega,by omega,by omega,h2.2.1,h2.2.2.1,h2.2.2.2.1,h2.2.2.2.2⟩
end Go.Proofs.Ythcbemnflgjadaa
namespace Go.Proofs.Ythcbemnflgjadaa
open Go Go.RowKit
theorem Qy {α:Type} (p:List α) (x:α) (r:List α):(p++x::r)[p.length]? = some x:=by simp
theorem Qz {α:Type} (p:List α) (x z:α) (r:List α):(p++x::r).set p.length z=p++z::r:=by
  rw [List.set_append_right _ _ (Nat.le_refl _),Nat.sub_self]; rfl
theorem DK {α:Type} (p:List α) (x:α) (r:List α) {k:Nat} (hk:k=p.length):Bi (p++x::r) (k:Int)=some x:=by subst hk; rw [PA,Qy]
theorem F9 {α:Type} (p:List α) (x z:α) (r:List α) {k:Nat} (hk:k=p.length):upd (p++x::r) (k:Int) z=some (p++z::r):=by
  subst hk; rw [Re _ _ _ (by simp),Qz]
def FW (lt:Int→Int→Bool) (x:Int):List Int→List Int
  | []=>[x]
  | y::r=>if lt x y then y::FW lt x r else x::y::r
def Nt (lt:Int→Int→Bool) (l:List Int) (x:Int):List Int:=(FW lt x l.reverse).reverse
def Db (lt:Int→Int→Bool) (l:List Int):List Int:=l.foldl (Nt lt) []
theorem J2 (lt:Int→Int→Bool) (x:Int):∀ l,(FW lt x l).Perm (x::l)
  | []=>.refl _
  | y::r=>by
    unfold FW
    split
    · exact((J2 lt x r).cons y).trans (.swap x y r)
    · exact .refl _
theorem Pk (lt:Int→Int→Bool) (l:List Int) (x:Int):(Nt lt l x).Perm (l++[x]):=by
  unfold Nt
  refine(List.reverse_perm _).trans ((J2 lt x _).trans ?_)
  refine((List.reverse_perm l).cons x).trans ?_
  exact(List.perm_append_singleton x l).symm
theorem GI (lt:Int→Int→Bool):∀ (l acc:List Int),(l.foldl (Nt lt) acc).Perm (acc++l)
  | [],acc=>by simp
  | x::r,acc=>by
    rw [List.foldl_cons]
    refine(GI lt r _).trans ?_
    refine((Pk lt acc x).append_right r).trans ?_
    simp
theorem Dy (lt:Int→Int→Bool) (l:List Int):(Db lt l).Perm l:=by simpa [Db] using GI lt l []
theorem Dd (lt:Int→Int→Bool) (l:List Int):(Db lt l).length=l.length:=(Dy lt l).length_eq
theorem J3 (lt:Int→Int→Bool) (l:List Int) (x:Int):Db lt (l++[x])=Nt lt (Db lt l) x:=by simp [Db,List.foldl_append]
theorem JT {lt:Int→Int→Bool} {le:Int→Int→Prop} (h1:∀ a b,lt a b=true→le a b) (h2:∀ a b,lt a b=false→le b a) (ht:∀ a b c,le a b→le b c→le a c) (x:Int) :
    ∀ l:List Int,l.Pairwise (fun a b=>le b a)→(FW lt x l).Pairwise (fun a b=>le b a)
  | [],_=>by simp [FW]
  | y::r,h=>by
    rw [List.pairwise_cons] at h
    unfold FW
    split
    · rename_i hx
      rw [List.pairwise_cons]
      refine⟨fun z hz=>?_,JT h1 h2 ht x r h.2⟩
      rcases List.mem_cons.1 ((J2 lt x r).mem_iff.1 hz) with rfl | hz
      · exact h1 _ _ hx
      · exact h.1 z hz
    · rename_i hx
      have hyx:=h2 x y (by simpa using hx)
      rw [List.pairwise_cons,List.pairwise_cons]
      refine⟨fun z hz=>?_,h⟩
      rcases List.mem_cons.1 hz with rfl | hz
      · exact hyx
      · exact ht _ _ _ (h.1 z hz) hyx
theorem Nu {lt:Int→Int→Bool} {le:Int→Int→Prop} (h1:∀ a b,lt a b=true→le a b) (h2:∀ a b,lt a b=false→le b a) (ht:∀ a b c,le a b→le b c→le a c) (l:List Int):(Db lt l).Pairwise le:=by
  have key:∀ (l acc:List Int),acc.Pairwise le→(l.foldl (Nt lt) acc).Pairwise le:=by
    intro l
    induction l with
    | nil=>intro acc h; exact h
    | cons x r ih =>
      intro acc h
      rw [List.foldl_cons]
      refine ih _ ?_
      unfold Nt
      rw [List.pairwise_reverse]
      exact JT h1 h2 ht x _ (List.pairwise_reverse.2 h)
  exact key l [] List.Pairwise.nil
theorem KM (cmp:Int→Int→Option Int) (lt:Int→Int→Bool) (x:Int):∀ (A B:List Int)(n:Nat),A.length<n→A.length≤1000000→(∀ y∈A,∃ d,cmp x y=some d∧decide (d<0)=lt x y) →
    A0 n 0 cmp (A.reverse++x::B) (A.length:Int)=some ((FW lt x A).reverse++B)
  | _,_,0,h,_,_=>by omega
  | [],B,n+1,_,_,_=>by
    rw [A0]
    simp [FW]
  | y::A,B,n+1,h,hl,hc=>by
    obtain⟨d,hd,hlt⟩:=hc y (by simp)
    have hl':A.length+1≤1000000:=by simpa using hl
    have e0:(y::A).reverse++x::B=A.reverse++y::x::B:=by simp
    have e1:(y::A).reverse++x::B=(A.reverse++[y])++x::B:=by simp
    have hk:(A.reverse++[y]).length=A.length+1:=by simp
    have i1:Bi ((y::A).reverse++x::B) ((A.length+1:Nat):Int)=some x:=by rw [e1,DK _ _ _ hk.symm]
    have i2:Bi ((y::A).reverse++x::B) (A.length:Int)=some y:=by rw [e0,DK _ _ _ (by simp)]
    have u1:upd ((y::A).reverse++x::B) ((A.length+1:Nat):Int) y=some (A.reverse++y::y::B):=by rw [e1,F9 _ _ _ _ hk.symm]; simp
    have i3:Bi (A.reverse++y::y::B) (A.length:Int)=some y:=DK _ _ _ (by simp)
    have u2:upd (A.reverse++y::y::B) (A.length:Int) x=some (A.reverse++x::y::B):=F9 _ _ _ _ (by simp)
    have w1:IntKind.i64.wrap (((A.length+1:Nat):Int)-1)=(A.length:Int):=by rw [I8 (by omega) (by omega)]; omega
    have g1:decide (((A.length+1:Nat):Int)>0)=true:=decide_eq_true (by omega)
    rw [A0,List.length_cons]
    simp only [g1,cond_true,i1,i2,w1,Option.bind_some,hd,hlt]
    unfold FW
    cases hx:lt x y with
    | false=>simp
    | true =>
      simp only [cond_true,u1,i3,u2,Option.bind_some,if_true]
      rw [KM cmp lt x A (y::B) n (by simp at h; omega) (by omega) fun z hz=>hc z (by simp [hz])]
      simp
theorem KN (cmp:Int→Int→Option Int) (lt:Int→Int→Bool) (l:List Int) (hl:l.length≤1000) (hc:∀ x∈l,∀ y∈l,∃ d,cmp x y=some d∧decide (d<0)=lt x y):∀ (n i:Nat),2*l.length+2≤n+i→i≤l.length →
    A1 n 0 (l.length:Int) cmp (Db lt (l.take i)++l.drop i) (i:Int)=some (Db lt l)
  | 0,i,h,hi=>by omega
  | n+1,i,h,hi=>by
    rw [A1]
    by_cases hx:i<l.length
    · have h1:=KM cmp lt l[i] (Db lt (l.take i)).reverse (l.drop (i+1)) n (by simp [Dd]; omega) (by simp [Dd]; omega) (fun y hy=>hc _ (List.getElem_mem hx) y (by
        have:=(Dy lt (l.take i)).mem_iff.1 (List.mem_reverse.1 hy)
        exact List.mem_of_mem_take this))
      rw [List.reverse_reverse,List.length_reverse,Dd,List.length_take,Nat.min_eq_left (Nat.le_of_lt hx),← B7 hx] at h1
      have e1:(FW lt l[i] (Db lt (l.take i)).reverse).reverse=Db lt (l.take (i+1)):=by
        rw [List.take_succ_eq_append_getElem hx,J3]; rfl
      rw [show decide ((i:Int)<(l.length:Int))=true by simp; omega,cond_true,h1,Option.bind_some,Em i (by omega),e1]
      exact KN cmp lt l hl hc n (i+1) (by omega) (by omega)
    · have:i=l.length:=by omega
      subst this
      simp
theorem MH (n:Nat) (cmp:Int→Int→Option Int) (lt:Int→Int→Bool) (l:List Int) (hl:l.length≤1000) (hc:∀ x∈l,∀ y∈l,∃ d,cmp x y=some d∧decide (d<0)=lt x y) (hn:2*l.length+2≤n) :
    AO n l 0 (l.length:Int) cmp=some (Db lt l):=by
  unfold AO
  have e1:IntKind.i64.wrap (0+1)=((1:Nat):Int):=by decide
  rw [e1]
  cases l with
  | nil =>
    obtain⟨m,rfl⟩:∃ m,n=m+1:=⟨n-1,by simp at hn; omega⟩
    rw [A1]
    simp [Db]
  | cons x r =>
    have h1:=KN cmp lt (x::r) hl hc n 1 (by omega) (by simp)
    have e2:Db lt ((x::r).take 1)++(x::r).drop 1=x::r:=by simp [Db,Nt,FW]
    rw [e2] at h1
    rw [h1]
    rfl
theorem JU (n:Nat) (cmp:Int→Int→Option Int) (lt:Int→Int→Bool) (l:List Int) (hl:l.length≤12) (hc:∀ x∈l,∀ y∈l,∃ d,cmp x y=some d∧decide (d<0)=lt x y) (hn:2*l.length+4≤n) :
    AB n l cmp=some (Db lt l):=by
  unfold AB E4
  have w1:IntKind.u64.wrap (l.length:Int)=(l.length:Int):=by
    simp [IntKind.wrap,IntKind.bits,IntKind.signed]; omega
  rw [w1,if_pos ⟨by simp,by simp; omega⟩]
  obtain⟨m,rfl⟩:∃ m,n=m+2:=⟨n-2,by omega⟩
  simp only [Option.bind_some]
  rw [AS,AW]
  have w2:IntKind.i64.wrap ((l.length:Int)-0)=(l.length:Int):=by rw [I8 (by omega) (by omega)]; omega
  have c1:decide ((l.length:Int)≤12)=true:=by simp; omega
  rw [w2,c1,cond_true,MH m cmp lt l (by omega) hc (by omega)]
  rfl
def BI (key:Int→Int) (a b:Int):Bool:=decide (key a<key b)
theorem KO (key:Int→Int) (l:List Int):(Db (BI key) l).Pairwise fun a b=>key a≤key b :=
  Nu (le:=fun a b=>key a≤key b) (fun a b h=>by simp [BI] at h; omega) (fun a b h=>by simp [BI] at h; omega) (fun a b c h1 h2=>Int.le_trans h1 h2) l
end Go.Proofs.Ythcbemnflgjadaa
namespace Go.Proofs.Ythcbemnflgjadaa
open Go Go.RowKit
def Au (n:Nat):List Int:=(List.range n).map fun(k:Nat)=>(k:Int)
theorem DS (n:Nat):Au (n+1)=Au n++[(n:Int)]:=by simp [Au,List.range_succ]
theorem BT (n:Nat):(Au n).length=n:=by simp [Au]
theorem AT {n:Nat} {b:Int}:b∈Au n↔0≤b∧b<n:=by
  unfold Au
  rw [List.mem_map]
  constructor
  · rintro⟨k,hk,rfl⟩
    rw [List.mem_range] at hk
    omega
  · intro h
    exact⟨b.toNat,by rw [List.mem_range]; omega,by omega⟩
theorem C2 {y:Al} {b:Int}:F8 b 0 ((y.buses.length:Int)-1)=true↔b∈Au y.buses.length:=by
  rw [CN,AT]; omega
theorem CF:∀ n,(Au n).Nodup
  | 0=>by simp [Au]
  | n+1=>by
    rw [DS,List.nodup_append]
    refine⟨CF n,by simp,fun a ha b hb=>?_⟩
    rw [AT] at ha
    simp at hb
    omega
def Eu (y:Al) (b:Int):Int:=(AN y b).turn
def MI (y:Al) (f:Int→Bool):List Int:=(Au y.buses.length).filter fun b=>!f b
def De (y:Al) (f:Int→Bool):List Int:=Db (BI (Eu y)) (MI y f)
theorem KP {y:Al} {f:Int→Bool} {b:Int}:b∈MI y f↔b∈Au y.buses.length∧f b=false:=by
  unfold MI
  rw [List.mem_filter]
  simp
theorem KQ {y:Al} {f:Int→Bool} {b:Int}:b∈De y f↔b∈Au y.buses.length∧f b=false:=by
  unfold De
  rw [(Dy _ _).mem_iff,KP]
theorem Nv (y:Al) (f:Int→Bool):(MI y f).length≤y.buses.length:=by
  unfold MI
  exact Nat.le_trans (List.length_filter_le _ _) (by rw [BT]; exact Nat.le_refl _)
theorem Is (y:Al) (f:Int→Bool):(De y f).length≤y.buses.length:=by
  unfold De
  rw [Dd]
  exact Nv y f
theorem JV (y:Al) (f:Int→Bool) (hb:y.buses.length≤8):∀ (n i:Nat),y.buses.length<n+i→i≤y.buses.length →
    Bf n y (Bk f) ((Au i).filter fun b=>!f b) (i:Int)=some (MI y f)
  | 0,i,h,hi=>by omega
  | n+1,i,h,hi=>by
    rw [Bf,BS]
    by_cases hx:i<y.buses.length
    · have h0:(0:Int)≤(i:Int):=by omega
      have h8:(i:Int)<8:=by omega
      simp only [hx,decide_true,cond_true,MG h0 h8,KI _ h0 h8,Option.bind_some]
      have ih:=JV y f hb n (i+1) (by omega) (by omega)
      rw [DS,List.filter_append] at ih
      rw [Em i (by omega)]
      have hlen:=List.length_filter_le (fun b=>!f b) (Au i)
      rw [BT] at hlen
      cases hf:f (i:Int) with
      | true =>
        simp only [Bool.not_true,cond_false]
        rw [← ih]
        simp [hf]
      | false =>
        simp only [Bool.not_false,cond_true]
        rw [GH _ _ (by simp; omega),Option.bind_some,← ih]
        simp [hf]
    · have:i=y.buses.length:=by omega
      subst this
      simp [MI]
theorem Pm (n:Nat) {y:Al} (hv:y.buses.all D8=true) {a b:Int} (ha:a∈Au y.buses.length) (hb:b∈Au y.buses.length) :
    ∃ d,Bo n a b y=some d∧decide (d<0)=BI (Eu y) a b:=by
  rw [← C2] at ha hb
  have h1:=GX hv ha
  have h2:=GX hv hb
  unfold Bo
  rw [HH y ha,HH y hb]
  refine⟨_,rfl,?_⟩
  rw [I8 (by omega) (by omega)]
  unfold BI Eu
  by_cases h:(AN y a).turn<(AN y b).turn
  · rw [decide_eq_true h,decide_eq_true (by omega)]
  · rw [decide_eq_false h,decide_eq_false (by omega)]
theorem PI (n:Nat) (y:Al) (f:Int→Bool) (hb:y.buses.length≤8) (hv:y.buses.all D8=true) (hn:20≤n):Cq n y (Bk f)=some (De y f):=by
  unfold Cq
  have e1:=JV y f hb n 0 (by omega) (by omega)
  rw [show((0:Nat):Int)=0 from rfl] at e1
  have hl:=Nv y f
  have e2:=JU n (fun y0 y1=>Bo n y0 y1 y) (BI (Eu y)) (MI y f) (by omega) (fun a ha b hb=>Pm n hv (KP.1 ha).1 (KP.1 hb).1) (by omega)
  rw [show(Au 0).filter (fun b=>!f b)=([]:List Int) from rfl] at e1
  rw [e1,Option.bind_some,e2]
  rfl
theorem GJ (y:Al) (hv:y.buses.length≤1000) (x:Int) (hx:x∈Au y.buses.length):∀ (A B:List Int)(n:Nat),A.length<n→A.length≤1000000→(∀ z∈A,z∈Au y.buses.length) →
    Cu n y (A.reverse++x::B) (A.length:Int)=some ((FW (BI (Eu y)) x A).reverse++B)
  | _,_,0,h,_,_=>by omega
  | [],B,n+1,_,_,_=>by
    rw [Cu]
    simp [FW]
  | z::A,B,n+1,h,hl,hc=>by
    have hl':A.length+1≤1000000:=by simpa using hl
    have e0:(z::A).reverse++x::B=A.reverse++z::x::B:=by simp
    have e1:(z::A).reverse++x::B=(A.reverse++[z])++x::B:=by simp
    have hk:(A.reverse++[z]).length=A.length+1:=by simp
    have i1:Bi ((z::A).reverse++x::B) ((A.length+1:Nat):Int)=some x:=by rw [e1,DK _ _ _ hk.symm]
    have i2:Bi ((z::A).reverse++x::B) (A.length:Int)=some z:=by rw [e0,DK _ _ _ (by simp)]
    have u1:upd ((z::A).reverse++x::B) ((A.length+1:Nat):Int) z=some (A.reverse++z::z::B):=by rw [e1,F9 _ _ _ _ hk.symm]; simp
    have i3:Bi (A.reverse++z::z::B) (A.length:Int)=some z:=DK _ _ _ (by simp)
    have u2:upd (A.reverse++z::z::B) (A.length:Int) x=some (A.reverse++x::z::B):=F9 _ _ _ _ (by simp)
    have w1:IntKind.i64.wrap (((A.length+1:Nat):Int)-1)=(A.length:Int):=by rw [I8 (by omega) (by omega)]; omega
    have g1:decide (((A.length+1:Nat):Int)>0)=true:=decide_eq_true (by omega)
    rw [Cu,List.length_cons]
    simp only [g1,cond_true,i1,i2,w1,Option.bind_some,HH y (C2.2 hx),HH y (C2.2 (hc z (by simp)))]
    rw [show decide ((AN y x).turn<(AN y z).turn)=BI (Eu y) x z from rfl]
    unfold FW
    cases hq:BI (Eu y) x z with
    | false=>simp
    | true =>
      simp only [cond_true,u1,i3,u2,Option.bind_some,if_true]
      rw [GJ y hv x hx A (z::B) n (by simp at h; omega) (by omega) fun q hq=>hc q (by simp [hq])]
      simp
theorem GK (y:Al) (broken:List Int) (hb:y.buses.length≤20) (hbr:broken.length≤20):∀ (n i:Nat),60≤n+i→i≤y.buses.length →
    Cv n y broken (Db (BI (Eu y)) ((Au i).filter fun b=>!AH broken b)) (i:Int)=some (De y (AH broken))
  | 0,i,h,hi=>by omega
  | n+1,i,h,hi=>by
    rw [Cv,BS]
    by_cases hx:i<y.buses.length
    · simp only [hx,decide_true,cond_true,Rg n broken _ (by omega) (by omega),Option.bind_some]
      have ih:=GK y broken hb hbr n (i+1) (by omega) (by omega)
      rw [DS,List.filter_append] at ih
      rw [Em i (by omega)]
      have hlen:=List.length_filter_le (fun b=>!AH broken b) (Au i)
      rw [BT] at hlen
      rw [show broken.contains (i:Int)=AH broken (i:Int) from rfl]
      cases hf:AH broken (i:Int) with
      | true =>
        simp only [cond_true]
        rw [← ih]
        simp [hf]
      | false =>
        simp only [cond_false]
        have hq:(Db (BI (Eu y)) ((Au i).filter fun b=>!AH broken b)).length≤i:=by rw [Dd]; exact hlen
        rw [GH _ _ (by simp; omega),Option.bind_some]
        have e1:=GJ y (by omega) (i:Int) (by rw [AT]; omega) (Db (BI (Eu y)) ((Au i).filter fun b=>!AH broken b)).reverse [] n (by rw [List.length_reverse]; omega) (by rw [List.length_reverse]; omega) (fun z hz=>by
          have:=(Dy _ _).mem_iff.1 (List.mem_reverse.1 hz)
          have:=(List.mem_filter.1 this).1
          rw [AT] at this ⊢
          omega)
        rw [List.reverse_reverse,List.length_reverse,List.append_nil] at e1
        have w1:IntKind.i64.wrap ((((Db (BI (Eu y)) ((Au i).filter fun b=>!AH broken b)++[(i:Int)]).length:Nat):Int)-1)=((Db (BI (Eu y)) ((Au i).filter fun b=>!AH broken b)).length:Int):=by
          rw [List.length_append,List.length_singleton,I8 (by omega) (by omega)]; omega
        rw [w1,e1,Option.bind_some,← ih]
        simp only [hf,List.filter_cons,List.filter_nil,Bool.not_false,if_true,J3]
        rfl
    · have:i=y.buses.length:=by omega
      subst this
      simp [De,MI]
theorem MJ (n:Nat) (y:Al) (broken:List Int) (hb:y.buses.length≤20) (hbr:broken.length≤20) (hn:60≤n):Gd n y broken=some (De y (AH broken)):=by
  unfold Gd
  have e1:=GK y broken hb hbr n 0 (by omega) (by omega)
  rw [show((0:Nat):Int)=0 from rfl,show Db (BI (Eu y)) ((Au 0).filter fun b=>!AH broken b)=[] from rfl] at e1
  rw [e1]
  rfl
def DT (m:Nat) (g:Int→Int):List Int:=(Au m).map g
theorem HI (m:Nat) (g:Int→Int):(DT m g).length=m:=by simp [DT,BT]
theorem MK {m:Nat} {g:Int→Int} {k:Nat} (h:k<m):(DT m g)[k]? = some (g (k:Int)):=by
  unfold DT Au
  rw [List.getElem?_map,List.getElem?_map,List.getElem?_range h]
  rfl
theorem ML {m:Nat} {g:Int→Int} {b:Int} (h:F8 b 0 ((m:Int)-1)=true):Bi (DT m g) b=some (g b):=by
  rw [CN] at h
  obtain⟨k,rfl⟩:=Int.eq_ofNat_of_zero_le h.1
  rw [PA,MK (by omega)]
theorem MM {m:Nat} {g:Int→Int} {l:List Int} (hl:l.length=m) (h:∀ k,k<m→l[k]? = some (g (k:Int))):l=DT m g:=by
  apply List.ext_getElem?
  intro k
  rcases Nat.lt_or_ge k m with hk | hk
  · rw [h k hk,MK hk]
  · rw [List.getElem?_eq_none (by omega),List.getElem?_eq_none (by rw [HI]; omega)]
theorem OM {m:Nat} {g:Int→Int} {b v:Int} (h:F8 b 0 ((m:Int)-1)=true):upd (DT m g) b v=some (DT m fun x=>if x=b then v else g x):=by
  rw [CN] at h
  obtain⟨k,rfl⟩:=Int.eq_ofNat_of_zero_le h.1
  rw [Re _ _ _ (by rw [HI]; omega)]
  congr 1
  refine MM (by rw [List.length_set,HI]) fun j hj=>?_
  by_cases hjk:j=k
  · subst hjk
    rw [List.getElem?_set_self (by rw [HI]; omega)]
    simp
  · rw [List.getElem?_set_ne (Ne.symm hjk),MK hj,if_neg (by omega)]
theorem Nw (l:List Int):l=DT l.length fun k=>l.getD k.toNat 0:=MM rfl fun k hk=>by
  rw [List.getElem?_eq_getElem hk]
  simp [List.getD_eq_getElem?_getD,List.getElem?_eq_getElem hk]
theorem PJ (m:Nat):List.replicate m (0:Int)=DT m fun _=>0:=MM (by simp) fun k hk=>by
  rw [List.getElem?_replicate,if_pos hk]
def C3 (room:List Int) (k:Int):Int:=room.getD k.toNat 0
def EH (room:List Int):List Int→List Int→Bool
  | _,[]=>true
  | pre,n::r=>F8 n 0 ((room.length:Int)-1) && (decide ((pre.count n:Int)<C3 room n) && EH room (pre++[n]) r)
def GZ (y:Al) (l:List Int):Bool:=decide (l.length=y.buses.length) && EH y.room [] l
theorem Mj {room:List Int} (h:(room.all fun r=>F8 r 0 8)=true) {k:Int} (hk:F8 k 0 ((room.length:Int)-1)=true):0≤C3 room k∧C3 room k≤8:=by
  rw [CN] at hk
  have hl:k.toNat<room.length:=by omega
  unfold C3
  rw [List.getD_eq_getElem?_getD,List.getElem?_eq_getElem hl]
  exact CN.1 (List.all_eq_true.1 h _ (List.getElem_mem hl))
theorem It (pre:List Int) (n k:Int):((pre++[n]).count k:Int)=(pre.count k:Int)+(if k=n then 1 else 0):=by
  rw [List.count_append,List.count_singleton]
  by_cases h:k=n
  · subst h; simp
  · have:(n == k)=false:=by
      cases hq:(n == k) with
      | false=>rfl
      | true=>rw [beq_iff_eq] at hq; exact absurd hq.symm h
    simp [h,this]
theorem JW (room:List Int) (hr:(room.all fun r=>F8 r 0 8)=true) (hm:room.length≤1000) (l:List Int) (hl:l.length≤1000):∀ (n i:Nat),l.length<n+i→i≤l.length→(∀ k,F8 k 0 ((room.length:Int)-1)=true→((l.take i).count k:Int)≤C3 room k) →
    ∃ r,Bt n l (DT room.length fun k=>C3 room k-((l.take i).count k:Int)) (i:Int)=some r∧(if EH room (l.take i) (l.drop i) then ∃ x,r=Ex.go x else r=Ex.ret false)
  | 0,i,h,hi,_=>by omega
  | n+1,i,h,hi,hc=>by
    rw [Bt,BS]
    by_cases hx:i<l.length
    · simp only [hx,decide_true,cond_true,CW _ _ hx,Option.bind_some,FU,HI]
      rw [I8 (x:=(room.length:Int)-1) (by omega) (by omega),B7 hx,EH]
      cases h1:F8 l[i] 0 ((room.length:Int)-1) with
      | false=>exact⟨_,rfl,by simp⟩
      | true =>
        have hk:=hc _ h1
        have hR:=Mj hr h1
        simp only [Bool.not_true,cond_false,ML h1,Option.bind_some]
        by_cases h2:((l.take i).count l[i]:Int)<C3 room l[i]
        · have e0:(C3 room l[i]-((l.take i).count l[i]:Int) == 0)=false:=by
            cases hq:(C3 room l[i]-((l.take i).count l[i]:Int) == 0) with
            | false=>rfl
            | true=>rw [beq_iff_eq] at hq; omega
          rw [e0]
          simp only [cond_false,OM h1,Option.bind_some]
          rw [Em i (by omega),I8 (by omega) (by omega),decide_eq_true h2]
          have e1:l.take i++[l[i]]=l.take (i+1):=(List.take_succ_eq_append_getElem hx).symm
          have e2:(DT room.length fun x=>if x=l[i] then C3 room l[i]-((l.take i).count l[i]:Int)-1 else C3 room x-((l.take i).count x:Int))=DT room.length fun k=>C3 room k-((l.take (i+1)).count k:Int):=by
            congr 1
            funext x
            rw [← e1,It]
            by_cases hxe:x=l[i]
            · rw [if_pos hxe,if_pos hxe,hxe]; omega
            · rw [if_neg hxe,if_neg hxe]; omega
          rw [e1,e2]
          simp only [Bool.true_and]
          refine JW room hr hm l hl n (i+1) (by omega) (by omega) fun k hkk=>?_
          rw [← e1,It]
          have:=hc k hkk
          split
          · rename_i hke; rw [hke]; omega
          · omega
        · have e0:(C3 room l[i]-((l.take i).count l[i]:Int) == 0)=true:=by rw [beq_iff_eq]; omega
          rw [e0,decide_eq_false h2]
          exact⟨_,rfl,by simp⟩
    · have:i=l.length:=by omega
      subst this
      exact⟨Ex.go _,by simp; rfl,by simp [EH]⟩
theorem PK (n:Nat) (y:Al) (hr:(y.room.all fun r=>F8 r 0 8)=true) (hm:y.room.length≤1000) (l:List Int) (hl:l.length≤1000) (hn:l.length<n):Co n y l=some (GZ y l):=by
  unfold Co GZ
  by_cases he:l.length=y.buses.length
  · rw [show((l.length:Int) != (y.buses.length:Int))=false by simp [he],cond_false,PD n _ hm,Option.bind_some]
    obtain⟨r,h1,h2⟩:=JW y.room hr hm l hl n 0 (by omega) (by omega) (fun k hk=>by simp; exact(Mj hr hk).1)
    have e1:(DT y.room.length fun k=>C3 y.room k-(((l.take 0).count k:Nat):Int))=y.room:=by
      refine Eq.trans ?_ (Nw y.room).symm
      congr 1
      funext k
      simp [C3]
    rw [e1,show((0:Nat):Int)=0 from rfl] at h1
    rw [h1]
    simp only [List.take_zero,List.drop_zero] at h2
    split at h2
    · rename_i hq
      obtain⟨x,rfl⟩:=h2
      simp [Ex.bind,he,hq]
    · rename_i hq
      subst h2
      simp [Ex.bind,he,hq]
  · rw [show((l.length:Int) != (y.buses.length:Int))=true by simp; omega]
    simp [he]
end Go.Proofs.Ythcbemnflgjadaa
namespace Go.Proofs.Ythcbemnflgjadaa
open Go Go.RowKit
def KR (y:Al):Int→List Int→Bool
  | _,[]=>true
  | last,b::r=>F8 b 0 ((y.buses.length:Int)-1) && (decide (last<b) && KR y b r)
def KS (y:Al) (l:List Int):Bool:=KR y (-1) l && decide ((l.length:Int)≤y.broken)
theorem KU (y:Al) (hb:y.buses.length≤8) (l:List Int) (hl:l.length≤1000):∀ (n i:Nat)(last:Int),l.length<n+i→i≤l.length →
    ∃ r,B9 n y l (i:Int) last (Bk (AH (l.take i)))=some r∧(if KR y last (l.drop i) then r=Ex.go (Bk (AH l)) else ∃ x,r=Ex.ret (x,false))
  | 0,i,last,h,hi=>by omega
  | n+1,i,last,h,hi=>by
    rw [B9,BS]
    by_cases hx:i<l.length
    · simp only [hx,decide_true,cond_true,CW _ _ hx,Option.bind_some,JS _ y _ (by omega)]
      rw [B7 hx,KR]
      cases h1:F8 l[i] 0 ((y.buses.length:Int)-1) with
      | false=>exact⟨_,rfl,by simp⟩
      | true =>
        have h1':=CN.1 h1
        have h8:l[i]<8:=by omega
        by_cases h2:last<l[i]
        · simp only [Bool.not_true,cond_false,decide_eq_false (show ¬ l[i]≤last by omega),decide_eq_true h2,MG h1'.1 h8,I9 _ h1'.1 h8,Option.bind_some,Bool.true_and]
          rw [Em i (by omega)]
          have e1:l.take i++[l[i]]=l.take (i+1):=(List.take_succ_eq_append_getElem hx).symm
          have e2:(Bk fun x=>if x=l[i] then true else AH (l.take i) x)=Bk (AH (l.take (i+1))):=Ea fun b=>by rw [← e1,Fd]
          rw [e2]
          exact KU y hb l hl n (i+1) l[i] (by omega) (by omega)
        · rw [decide_eq_false h2]
          simp only [Bool.not_true,cond_false,decide_eq_true (show l[i]≤last by omega),Option.bind_some,cond_true]
          exact⟨_,rfl,by simp⟩
    · have:i=l.length:=by omega
      subst this
      exact⟨Ex.go _,by simp; rfl,by simp [KR]⟩
theorem Q0 (n:Nat) (y:Al) (hb:y.buses.length≤8) (l:List Int) (hl:l.length≤1000) (hn:l.length<n) :
    ∃ x,Dh n y l=some (x,KS y l)∧(KS y l=true→x=Bk (AH l)):=by
  unfold Dh KS
  obtain⟨r,h1,h2⟩:=KU y hb l hl n 0 (-1) (by omega) (by omega)
  rw [show((0:Nat):Int)=0 from rfl,List.take_zero] at h1
  rw [List.drop_zero] at h2
  rw [QF,h1,Option.bind_some]
  split at h2
  · rename_i hq
    subst h2
    exact⟨_,by rw [hq]; rfl,fun _=>rfl⟩
  · rename_i hq
    obtain⟨x,rfl⟩:=h2
    exact⟨x,by simp [Ex.bind,hq],fun h=>by simp [hq] at h⟩
def G0 (y:Al) (lanes order broken:List Int):Bool:=GZ y lanes && (IB y order && KS y broken)
def Ct (y:Al) (lanes order broken:List Int):Int:=if Cr y=0 then(if G0 y lanes order broken then 0 else 2) else Cr y
def Dz (y:Al) (lanes order broken:List Int):BE:=⟨y,lanes,FV (Cs order),Bk (AH broken)⟩
theorem Nx (n:Nat) (y:Al) (lanes order broken:List Int) (hr:y.room.length≤100) (hb:y.buses.length≤100) (h1:lanes.length≤100) (h2:order.length≤100) (h3:broken.length≤100) (hn:200≤n) :
    ∃ x,Cp n y lanes order broken=some (x,Ct y lanes order broken)∧(Ct y lanes order broken=0→x=Dz y lanes order broken):=by
  unfold Cp Ct
  rw [PF n y (by omega) (by omega) (by omega) (by omega),Option.bind_some]
  by_cases hf:Cr y=0
  · obtain⟨v1,v0,v2,v3,v4,v5,v6⟩:=IC hf
    obtain⟨x1,p1,p2⟩:=Ns n y v2 v5 order (by omega) (by omega)
    obtain⟨x2,q1,q2⟩:=Q0 n y v2 broken (by omega) (by omega)
    rw [hf,p1,q1,PK n y v4 (by omega) lanes (by omega) (by omega)]
    simp only [Option.bind_some,bne_self_eq_false,cond_false,if_true]
    unfold G0
    cases a1:IB y order with
    | false=>exact⟨_,by simp; rfl,fun h=>by simp at h⟩
    | true =>
      cases a2:KS y broken with
      | false=>exact⟨_,by simp; rfl,fun h=>by simp at h⟩
      | true =>
        cases a3:GZ y lanes with
        | false=>exact⟨_,by simp; rfl,fun h=>by simp at h⟩
        | true=>exact⟨_,by simp; rfl,fun _=>by rw [p2 a1,q2 a2]; rfl⟩
  · have hn:(Cr y != 0)=true:=by simp [hf]
    rw [hn,if_neg hf]
    exact⟨_,rfl,fun h=>absurd h hf⟩
theorem ID {σ:Type} (step:σ→Int→Option σ) (q:List Int) (hq:q.length≤1000):∀ (n i:Nat)(s:σ),q.length<n+i→i≤q.length →
    AI n (fun s x=>(step s x).bind fun s1=>some (s1,true)) q (i:Int) s=((q.drop i).foldlM step s).map Ex.go
  | 0,i,s,h,hi=>by omega
  | n+1,i,s,h,hi=>by
    rw [AI,BS]
    by_cases hx:i<q.length
    · simp only [hx,decide_true,cond_true,CW _ _ hx,Option.bind_some]
      rw [Em i (by omega),B7 hx,List.foldlM_cons]
      cases hs:step s q[i] with
      | none=>rfl
      | some s' =>
        simp only [Option.bind_some,Bool.not_true,cond_false]
        rw [ID step q hq n (i+1) s' (by omega) (by omega)]
        rfl
    · have:i=q.length:=by omega
      subst this
      simp
theorem Pn {σ:Type} (n:Nat) (step:σ→Int→Option σ) (s:σ) (q:List Int) (hq:q.length≤1000) (hn:q.length<n) :
    Bd n (fun s x=>(step s x).bind fun s1=>some (s1,true)) s q=q.foldlM step s:=by
  unfold Bd
  have e1:=ID step q hq n 0 s (by omega) (by omega)
  rw [show((0:Nat):Int)=0 from rfl,List.drop_zero] at e1
  rw [e1]
  cases q.foldlM step s <;> rfl
def EI (lanes:List Int) (b:Int):Int:=lanes.getD b.toNat 0
theorem FX (lanes:List Int) {b:Int} (h0:0≤b) (h:b<lanes.length):Bi lanes b=some (EI lanes b):=by
  obtain⟨k,rfl⟩:=Int.eq_ofNat_of_zero_le h0
  rw [CW _ _ (by omega)]
  unfold EI
  simp [List.getD_eq_getElem?_getD,List.getElem?_eq_getElem (show k<lanes.length by omega)]
def Qs (lanes order:List Int) (c b:Int):Bool:=EI lanes c == EI lanes b && decide (Cs order c<Cs order b)
theorem Po (n:Nat) (y:Al) (lanes order broken:List Int) (hl:lanes.length=y.buses.length) (hb:y.buses.length≤8) {c b:Int} (hc:c∈Au y.buses.length) (hbb:b∈Au y.buses.length) :
    BQ n (Dz y lanes order broken) c b=some (Qs lanes order c b):=by
  rw [AT] at hc hbb
  unfold BQ Dz Qs
  rw [FX lanes hc.1 (by omega),FX lanes hbb.1 (by omega)]
  simp only [Option.bind_some,MG hc.1 (by omega),MG hbb.1 (by omega),K9 _ hc.1 (show c<8 by omega),K9 _ hbb.1 (show b<8 by omega)]
  cases EI lanes c == EI lanes b <;> simp
theorem Iu (l:List Int) (b:Int):0≤Cs l b∧Cs l b≤l.length:=by
  unfold Cs
  split
  · have:=List.idxOf_le_length (a:=b) (l:=l)
    omega
  · omega
def Df (y:Al) (lanes order:List Int) (g:Int→Bool) (b:Int) (k:Nat):List Int:=(Au k).filter fun c=>!g c && Qs lanes order c b
theorem HX (y:Al) (lanes order broken:List Int) (hl:lanes.length=y.buses.length) (hb:y.buses.length≤8) (g:Int→Bool) (b:Int) (hbb:b∈Au y.buses.length):∀ (n i:Nat),y.buses.length<n+i→i≤y.buses.length →
    AC n (Dz y lanes order broken) b (Df y lanes order g b i) (i:Int) (Bk fun x=>g x || AH (Df y lanes order g b i) x)=some (Df y lanes order g b y.buses.length,Bk fun x=>g x || AH (Df y lanes order g b y.buses.length) x)
  | 0,i,h,hi=>by omega
  | n+1,i,h,hi=>by
    rw [AC]
    rw [show(Dz y lanes order broken).yard=y from rfl,BS]
    by_cases hx:i<y.buses.length
    · have h0:(0:Int)≤(i:Int):=by omega
      have h8:(i:Int)<8:=by omega
      have hni:AH (Df y lanes order g b i) (i:Int)=false:=by
        cases hq:AH (Df y lanes order g b i) (i:Int) with
        | false=>rfl
        | true =>
          have hm:(i:Int)∈Df y lanes order g b i:=by simpa [AH] using hq
          have:=(List.mem_filter.1 hm).1
          rw [AT] at this
          omega
      have ih:=HX y lanes order broken hl hb g b hbb n (i+1) (by omega) (by omega)
      have hs:Df y lanes order g b (i+1)=if !g (i:Int) && Qs lanes order (i:Int) b then Df y lanes order g b i++[(i:Int)] else Df y lanes order g b i:=by
        unfold Df
        rw [DS,List.filter_append]
        cases hq:(!g (i:Int) && Qs lanes order (i:Int) b) <;> simp [hq]
      simp only [hx,decide_true,cond_true,MG h0 h8,KI _ h0 h8,Option.bind_some,hni,Bool.or_false]
      rw [Em i (by omega)]
      have hlen:(Df y lanes order g b i).length≤i:=by
        unfold Df
        exact Nat.le_trans (List.length_filter_le _ _) (by rw [BT]; exact Nat.le_refl _)
      have hbf:=Po n y lanes order broken hl hb (c:=(i:Int)) (b:=b) (by rw [AT]; omega) hbb
      cases hg:g (i:Int) with
      | true =>
        rw [hg] at hs
        simp only [Bool.not_true,Bool.false_and,Bool.false_eq_true,if_false] at hs
        rw [hs] at ih
        simpa using ih
      | false =>
        rw [hg] at hs
        simp only [Bool.not_false,Bool.true_and] at hs
        simp only [Bool.not_false,cond_true,hbf,Option.bind_some]
        cases hq:Qs lanes order (i:Int) b with
        | false =>
          rw [hq] at hs
          simp only [Bool.false_eq_true,if_false] at hs
          rw [hs] at ih
          simpa using ih
        | true =>
          rw [hq] at hs
          simp only [if_true] at hs
          simp only [cond_true]
          rw [GH _ _ (by simp; omega)]
          simp only [Option.bind_some,I9 _ h0 h8]
          have e2:(Bk fun x=>if x=(i:Int) then true else(g x || AH (Df y lanes order g b i) x))=Bk fun x=>g x || AH (Df y lanes order g b (i+1)) x:=Ea fun x=>by
            rw [hs,Fd]
            split <;> simp
          rw [e2,← hs]
          exact ih
    · have:i=y.buses.length:=by omega
      subst this
      simp
def DB (y:Al) (lanes order:List Int) (g:Int→Bool) (b:Int):List Int:=Db (BI (Cs order)) (Df y lanes order g b y.buses.length)
theorem Pp {l l':List Int} (h:l.Perm l') (x:Int):AH l x=AH l' x:=by
  unfold AH
  rw [Bool.eq_iff_iff]
  simp [h.mem_iff]
def Ha (y:Al) (lanes order:List Int) (g:Int→Bool) (b:Int):Int→Bool:=fun x=>if x=b then true else(g x || AH (DB y lanes order g b) x)
def Cf (y:Al) (lanes order:List Int):(Int→Bool)→List Int→List (List Int)
  | _,[]=>[]
  | g,b::r=>DB y lanes order g b::Cf y lanes order (Ha y lanes order g b) r
theorem EW (y:Al) (lanes order:List Int):∀ (ts:List Int)(g:Int→Bool),(Cf y lanes order g ts).length=ts.length
  | [],_=>rfl
  | b::r,g=>by rw [Cf,List.length_cons,List.length_cons,EW]
theorem Ny (n:Nat) (y:Al) (lanes order broken:List Int) (hb:y.buses.length≤8) (ho:order.length≤1000) {c d:Int} (hc:c∈Au y.buses.length) (hd:d∈Au y.buses.length) :
    ∃ e,AG n c d (Dz y lanes order broken)=some e∧decide (e<0)=BI (Cs order) c d:=by
  rw [AT] at hc hd
  unfold AG Dz
  simp only [MG hc.1 (show c<8 by omega),MG hd.1 (show d<8 by omega),K9 _ hc.1 (show c<8 by omega),K9 _ hd.1 (show d<8 by omega),Option.bind_some]
  refine⟨_,rfl,?_⟩
  have h1:=Iu order c
  have h2:=Iu order d
  rw [I8 (by omega) (by omega)]
  unfold BI
  by_cases h:Cs order c<Cs order d
  · rw [decide_eq_true h,decide_eq_true (by omega)]
  · rw [decide_eq_false h,decide_eq_false (by omega)]
theorem J4 {y:Al} {lanes order:List Int} {g:Int→Bool} {b:Int} {k:Nat} {c:Int}:c∈Df y lanes order g b k↔c∈Au k∧g c=false∧Qs lanes order c b=true:=by
  unfold Df
  rw [List.mem_filter]
  simp
theorem Fg {y:Al} {lanes order:List Int} {g:Int→Bool} {b:Int} {c:Int}:c∈DB y lanes order g b↔c∈Au y.buses.length∧g c=false∧Qs lanes order c b=true:=by
  unfold DB
  rw [(Dy _ _).mem_iff,J4]
theorem Pq (y:Al) (lanes order:List Int) (g:Int→Bool) (b:Int) (k:Nat):(Df y lanes order g b k).length≤k:=by
  unfold Df
  exact Nat.le_trans (List.length_filter_le _ _) (by rw [BT]; exact Nat.le_refl _)
theorem IE (n:Nat) (y:Al) (lanes order broken:List Int) (hl:lanes.length=y.buses.length) (hb:y.buses.length≤8) (ho:order.length≤1000) (hn:30≤n)
    (step:(List (List Int))×Aq→Int→Option ((List (List Int))×Aq))
    (hstep:step=fun s x15=>((AC n (Dz y lanes order broken) x15 ([]:List Int) 0 s.2).bind fun o_104 =>
      ((AB n o_104.1 (fun(y0:Int)(y1:Int)=>AG n y0 y1 (Dz y lanes order broken))).bind fun x42 =>
      ((Jj 8 x15).bind fun x44=>((Aq.setI o_104.2 x15 true).bind fun u_233=>((Kd s.1 ([x42]:List (List Int))).bind fun x48=>some (x48,u_233)))))) ) :
    ∀ (ts:List Int)(out:List (List Int))(g:Int→Bool),(∀ b∈ts,b∈Au y.buses.length)→out.length+ts.length≤1000→∃ u,ts.foldlM step (out,Bk g)=some (out++Cf y lanes order g ts,u)
  | [],out,g,_,_=>⟨Bk g,by simp [Cf]⟩
  | b::r,out,g,h,hle=>by
    have hbb:=h b (by simp)
    have hbr:=AT.1 hbb
    have e1:=HX y lanes order broken hl hb g b hbb n 0 (by omega) (by omega)
    rw [show((0:Nat):Int)=0 from rfl,show Df y lanes order g b 0=[] from rfl,show(Bk fun x=>g x || AH [] x)=Bk g from Ea fun x=>by simp [AH]] at e1
    have hlen:=Pq y lanes order g b y.buses.length
    have e2:=JU n (fun y0 y1=>AG n y0 y1 (Dz y lanes order broken)) (BI (Cs order)) (Df y lanes order g b y.buses.length) (by omega)
      (fun c hc d hd=>Ny n y lanes order broken hb ho (J4.1 hc).1 (J4.1 hd).1) (by omega)
    have e3:(Bk fun x=>if x=b then true else(g x || AH (Df y lanes order g b y.buses.length) x))=Bk (Ha y lanes order g b):=Ea fun x=>by
      unfold Ha DB
      rw [Pp (Dy _ _)]
    have hs:step (out,Bk g) b=some (out++[DB y lanes order g b],Bk (Ha y lanes order g b)):=by
      rw [hstep]
      simp only [e1,Option.bind_some,e2,MG hbr.1 (show b<8 by omega),I9 _ hbr.1 (show b<8 by omega),e3]
      rw [GH _ _ (by simp at hle ⊢; omega)]
      rfl
    obtain⟨u,ih⟩:=IE n y lanes order broken hl hb ho hn step hstep r (out++[DB y lanes order g b]) (Ha y lanes order g b) (fun z hz=>h z (by simp [hz])) (by simp at hle ⊢; omega)
    refine⟨u,?_⟩
    rw [List.foldlM_cons,hs]
    show(r.foldlM step (out++[DB y lanes order g b],Bk (Ha y lanes order g b)))=_
    rw [ih,Cf,List.append_assoc]
    rfl
theorem KV (n:Nat) (y:Al) (lanes order broken:List Int) (hl:lanes.length=y.buses.length) (hb:y.buses.length≤8) (hv:y.buses.all D8=true) (ho:order.length≤1000) (hn:30≤n) :
    Bu n (Dz y lanes order broken)=some (Cf y lanes order (fun _=>false) (De y (AH broken))):=by
  unfold Bu
  rw [show(Dz y lanes order broken).yard=y from rfl,show(Dz y lanes order broken).broken=Bk (AH broken) from rfl,PI n y _ hb hv (by omega),Option.bind_some]
  have hlen:=Is y (AH broken)
  obtain⟨u,h1⟩:=IE n y lanes order broken hl hb ho hn _ rfl (De y (AH broken)) [] (fun _=>false) (fun b hbm=>(KQ.1 hbm).1) (by simp; omega)
  have h2:=Pn n _ (([]:List (List Int)),Bk fun _=>false) (De y (AH broken)) (by omega) (by omega) |>.trans h1
  rw [show(Aq.mk false false false false false false false false)=Bk (fun _=>false) from rfl]
  rw [h2]
  rfl
end Go.Proofs.Ythcbemnflgjadaa
namespace Go.Proofs.Ythcbemnflgjadaa
open Go Go.RowKit
theorem KW (y:Al):∀ (l pre:List Int),pre.Nodup→IA y pre l=true→(pre++l).Nodup∧∀ b∈l,b∈Au y.buses.length
  | [],pre,hp,_=>by simpa using hp
  | b::r,pre,hp,h=>by
    unfold IA OL at h
    simp only [Bool.and_eq_true,Bool.not_eq_true',Bool.or_eq_false_iff] at h
    obtain⟨⟨h1,h2,_⟩,h4⟩:=h
    have hb:b ∉ pre:=by simpa using h2
    have hp':(pre++[b]).Nodup:=by
      rw [List.nodup_append]
      refine⟨hp,by simp,fun a ha c hc=>?_⟩
      simp at hc
      rintro rfl
      exact hb (hc▸ha)
    obtain⟨q1,q2⟩:=KW y r (pre++[b]) hp' h4
    refine⟨by simpa using q1,fun c hc=>?_⟩
    rcases List.mem_cons.1 hc with rfl | hc
    · exact C2.1 h1
    · exact q2 c hc
theorem Ow:∀ (l m:List Int),l.Nodup→(∀ x∈l,x∈m)→m.length≤l.length→∀ x∈m,x∈l
  | [],m,_,_,hl,x,hx=>by
    have:m=[]:=List.eq_nil_of_length_eq_zero (by simpa using hl)
    rw [this] at hx
    simp at hx
  | a::l,m,hn,hs,hl,x,hx=>by
    rw [List.nodup_cons] at hn
    by_cases hxa:x=a
    · simp [hxa]
    · have ha:a∈m:=hs a (by simp)
      refine List.mem_cons_of_mem _ (Ow l (m.erase a) hn.2 (fun z hz=>?_) ?_ x ((List.mem_erase_of_ne hxa).2 hx))
      · have hza:z≠a:=fun h=>hn.1 (h▸hz)
        exact(List.mem_erase_of_ne hza).2 (hs z (by simp [hz]))
      · rw [List.length_erase_of_mem ha]
        simp at hl
        omega
structure IF (y:Al) (order:List Int):Prop where
  nd:order.Nodup
  len:order.length=y.buses.length
  mem:∀ b,b∈order↔b∈Au y.buses.length
theorem Ox {y:Al} {order:List Int} (h:IB y order=true):IF y order:=by
  unfold IB at h
  simp only [Bool.and_eq_true,decide_eq_true_eq] at h
  obtain⟨h1,h2⟩:=KW y order [] List.nodup_nil h.2
  rw [List.nil_append] at h1
  exact⟨h1,h.1,fun b=>⟨h2 b,Ow order (Au y.buses.length) h1 h2 (by rw [BT,h.1]; exact Nat.le_refl _) b⟩⟩
theorem PL {l:List Int} {a b:Int} (ha:a∈l) (hb:b∈l) (h:Cs l a=Cs l b):a=b:=by
  unfold Cs at h
  simp only [List.contains_iff_mem,ha,hb,if_true] at h
  have h':l.idxOf a=l.idxOf b:=by omega
  have q1:=List.idxOf_lt_length_iff.2 ha
  have q2:=List.idxOf_lt_length_iff.2 hb
  have e1:=List.getElem_idxOf q1
  have e2:=List.getElem_idxOf q2
  rw [← e1,← e2]
  congr 1
end Go.Proofs.Ythcbemnflgjadaa
namespace Go.Proofs.Ythcbemnflgjadaa
open Go Go.RowKit
theorem IG (m:List (List Int)) (hm:m.length≤1000) (hs:m.flatten.length≤1000000):∀ (n i:Nat),m.length<n+i→i≤m.length →
    AK n m (i:Int) ((m.take i).flatten.length:Int)=some (m.flatten.length:Int)
  | 0,i,h,hi=>by omega
  | n+1,i,h,hi=>by
    rw [AK,BS]
    by_cases hx:i<m.length
    · have e1:(m.take (i+1)).flatten.length=(m.take i).flatten.length+m[i].length:=by
        rw [List.take_succ_eq_append_getElem hx,List.flatten_append,List.length_append]
        simp
      have hle:(m.take (i+1)).flatten.length≤m.flatten.length:=by
        have:=List.take_append_drop (i+1) m
        have h2:=congrArg List.flatten this
        rw [List.flatten_append] at h2
        rw [← h2,List.length_append]
        omega
      simp only [hx,decide_true,cond_true,CW _ _ hx,Option.bind_some]
      rw [Em i (by omega),I8 (by omega) (by omega),show((m.take i).flatten.length:Int)+(m[i].length:Int)=((m.take (i+1)).flatten.length:Int) by omega]
      rw [show decide (((m.take (i+1)).flatten.length:Int)<0)=false from decide_eq_false (by omega),cond_false]
      exact IG m hm hs n (i+1) (by omega) (by omega)
    · have:i=m.length:=by omega
      subst this
      simp
theorem IH (m:List (List Int)) (hm:m.length≤1000) (hs:m.flatten.length≤1000000):∀ (n i:Nat),m.length<n+i→i≤m.length →
    AL n m (m.take i).flatten (i:Int)=some m.flatten
  | 0,i,h,hi=>by omega
  | n+1,i,h,hi=>by
    rw [AL,BS]
    by_cases hx:i<m.length
    · have e1:(m.take (i+1)).flatten=(m.take i).flatten++m[i]:=by
        rw [List.take_succ_eq_append_getElem hx,List.flatten_append]
        simp
      have hle:(m.take (i+1)).flatten.length≤m.flatten.length:=by
        have:=List.take_append_drop (i+1) m
        have h2:=congrArg List.flatten this
        rw [List.flatten_append] at h2
        rw [← h2,List.length_append]
        omega
      simp only [hx,decide_true,cond_true,CW _ _ hx,Option.bind_some]
      rw [GH _ _ (by rw [e1,List.length_append] at hle; omega),Option.bind_some,Em i (by omega),← e1]
      exact IH m hm hs n (i+1) (by omega) (by omega)
    · have:i=m.length:=by omega
      subst this
      simp
theorem Pr (n:Nat) (m:List (List Int)) (hm:m.length≤1000) (hs:m.flatten.length≤1000000) (hn:m.length<n):Bp n m=some m.flatten:=by
  unfold Bp
  have e1:=IG m hm hs n 0 (by omega) (by omega)
  have e2:=IH m hm hs n 0 (by omega) (by omega)
  simp only [List.take_zero,List.flatten_nil,List.length_nil] at e1 e2
  rw [show((0:Nat):Int)=0 from rfl] at e1 e2
  rw [e1,Option.bind_some]
  unfold Pb
  rw [if_pos ⟨by omega,by omega⟩,Option.bind_some,e2]
  rfl
theorem E3 (y:Al) (lanes order:List Int):∀ (ts:List Int)(g:Int→Bool),(Cf y lanes order g ts).flatten.Nodup∧∀ c∈(Cf y lanes order g ts).flatten,g c=false∧c∈Au y.buses.length
  | [],g=>by simp [Cf]
  | b::r,g=>by
    obtain⟨h1,h2⟩:=E3 y lanes order r (Ha y lanes order g b)
    rw [Cf,List.flatten_cons]
    have hg:∀ c∈(Cf y lanes order (Ha y lanes order g b) r).flatten,c ∉ DB y lanes order g b∧g c=false∧c∈Au y.buses.length:=fun c hc=>by
      obtain⟨q1,q2⟩:=h2 c hc
      unfold Ha at q1
      split at q1
      · cases q1
      · simp only [Bool.or_eq_false_iff] at q1
        exact⟨by simpa [AH] using q1.2,q1.1,q2⟩
    refine⟨?_,fun c hc=>?_⟩
    · rw [List.nodup_append]
      refine⟨?_,h1,fun c hc d hd=>?_⟩
      · unfold DB
        rw [(Dy _ _).nodup_iff]
        exact List.Pairwise.filter _ (CF _)
      · rintro rfl
        exact(hg c hd).1 hc
    · rcases List.mem_append.1 hc with hc | hc
      · have:=Fg.1 hc
        exact⟨this.2.1,this.1⟩
      · exact(hg c hc).2
def Cn (y:Al) (lanes order broken:List Int):List (List Int):=Cf y lanes order (fun _=>false) (De y (AH broken))
def E7 (y:Al) (lanes order broken:List Int):List Int:=(Au y.buses.length).filter (AH (Cn y lanes order broken).flatten)
theorem FL:∀ n,(Au n).Pairwise (·≤·)
  | 0=>by simp [Au]
  | n+1=>by
    rw [DS,List.pairwise_append]
    refine⟨FL n,by simp,fun a ha b hb=>?_⟩
    rw [AT] at ha
    simp at hb
    omega
theorem II {y:Al} {m:List Int} (hn:m.Nodup) (hm:∀ c∈m,c∈Au y.buses.length):m.length≤y.buses.length:=by
  rcases Nat.lt_or_ge y.buses.length m.length with h | h
  · exfalso
    have h2:=Ow (m.take y.buses.length) (Au y.buses.length) (List.Pairwise.sublist (List.take_sublist _ _) hn) (fun x hx=>hm x (List.mem_of_mem_take hx)) (by rw [BT,List.length_take]; omega)
    have h3:=hm _ (List.getElem_mem h)
    have h4:=h2 _ h3
    have h5:(m.take y.buses.length++m.drop y.buses.length).Nodup:=by rw [List.take_append_drop]; exact hn
    rw [List.nodup_append] at h5
    exact h5.2.2 _ h4 m[y.buses.length] (by rw [B7 h]; exact List.mem_cons_self) rfl
  · exact h
theorem Nz {y:Al} {m:List Int} (hn:m.Nodup) (hm:∀ c∈m,c∈Au y.buses.length) (hb:y.buses.length≤1000):Lz m=some ((Au y.buses.length).filter (AH m)):=by
  refine Np ?_ ?_ ?_
  · refine(List.perm_ext_iff_of_nodup hn (List.Pairwise.filter _ (CF _))).2 fun c=>?_
    rw [List.mem_filter]
    constructor
    · exact fun hc=>⟨hm c hc,by simpa [AH] using hc⟩
    · exact fun hc=>by simpa [AH] using hc.2
  · exact List.Pairwise.filter _ (FL _)
  · have:=II hn hm
    omega
theorem Ps (n:Nat) (y:Al) (lanes order broken:List Int) (hr:y.room.length≤100) (hb:y.buses.length≤100) (h1:lanes.length≤100) (h2:order.length≤100) (h3:broken.length≤100) (hn:200≤n) :
    CB n y lanes order broken=some (if Ct y lanes order broken=0 then E7 y lanes order broken else [],Ct y lanes order broken):=by
  unfold CB
  obtain⟨x,e1,e2⟩:=Nx n y lanes order broken hr hb h1 h2 h3 hn
  rw [e1,Option.bind_some]
  by_cases ha:Ct y lanes order broken=0
  · have hf:Cr y=0:=by
      unfold Ct at ha
      split at ha
      · assumption
      · exact ha
    obtain⟨v1,v0,v2,v3,v4,v5,v6⟩:=IC hf
    have hok:G0 y lanes order broken=true:=by
      unfold Ct at ha
      rw [if_pos hf] at ha
      split at ha
      · assumption
      · omega
    unfold G0 at hok
    simp only [Bool.and_eq_true] at hok
    have hll:lanes.length=y.buses.length:=by have:=hok.1; unfold GZ at this; simp at this; exact this.1
    rw [e2 ha,ha,bne_self_eq_false,cond_false,KV n y lanes order broken hll v2 v5 (by omega) (by omega),Option.bind_some]
    obtain⟨s1,s2⟩:=E3 y lanes order (De y (AH broken)) fun _=>false
    have hfl:=II s1 (fun c hc=>(s2 c hc).2)
    have htl:=Is y (AH broken)
    rw [Pr n _ (by rw [EW]; omega) (by omega) (by rw [EW]; omega),Option.bind_some,Nz s1 (fun c hc=>(s2 c hc).2) (by omega)]
    rfl
  · have hne:(Ct y lanes order broken != 0)=true:=by simp [ha]
    rw [hne,cond_true,if_neg ha]
theorem Oy (n:Nat) (y:Al) (lanes order broken:List Int) (hr:y.room.length≤100) (hb:y.buses.length≤100) (h1:lanes.length≤100) (h2:order.length≤100) (h3:broken.length≤100) (hn:200≤n) :
    Eb n y lanes order broken=some (if Ct y lanes order broken=0 then Cn y lanes order broken else [],Ct y lanes order broken):=by
  unfold Eb
  obtain⟨x,e1,e2⟩:=Nx n y lanes order broken hr hb h1 h2 h3 hn
  rw [e1,Option.bind_some]
  by_cases ha:Ct y lanes order broken=0
  · have hf:Cr y=0:=by
      unfold Ct at ha
      split at ha
      · assumption
      · exact ha
    obtain⟨v1,v0,v2,v3,v4,v5,v6⟩:=IC hf
    have hok:G0 y lanes order broken=true:=by
      unfold Ct at ha
      rw [if_pos hf] at ha
      split at ha
      · assumption
      · omega
    unfold G0 at hok
    simp only [Bool.and_eq_true] at hok
    have hll:lanes.length=y.buses.length:=by have:=hok.1; unfold GZ at this; simp at this; exact this.1
    rw [e2 ha,ha,bne_self_eq_false,cond_false,KV n y lanes order broken hll v2 v5 (by omega) (by omega),Option.bind_some]
    rfl
  · have hne:(Ct y lanes order broken != 0)=true:=by simp [ha]
    rw [hne,cond_true,if_neg ha]
theorem MN (y:Al) (lanes order broken:List Int):(E7 y lanes order broken).length≤y.buses.length:=by
  unfold E7
  exact Nat.le_trans (List.length_filter_le _ _) (by rw [BT]; exact Nat.le_refl _)
end Go.Proofs.Ythcbemnflgjadaa
namespace Go.Proofs.Ythcbemnflgjadaa
open Go Go.RowKit
def PM (words:List (IK .u16)):Prop:=∀ x∈words,0≤x.n∧x.n≤65535
def wd (words:List (IK .u16)) (k:Int):Int:=if words.length=0 then 0 else(words.getD (Int.tmod k (words.length:Int)).toNat ⟨0⟩).n
theorem Dg {k m:Int} (hk:0≤k) (hm:0<m):0≤Int.tmod k m∧Int.tmod k m<m:=by
  rw [Int.tmod_eq_emod_of_nonneg hk]
  exact⟨Int.emod_nonneg _ (by omega),Int.emod_lt_of_pos _ hm⟩
theorem ON {b:Int} (h:b≠0):nz b=some ():=by unfold nz; rw [if_neg h]
theorem KA (n:Nat) (words:List (IK .u16)) (hw:PM words) (k:Int) (hk:0≤k):EA n words k=some (wd words k):=by
  unfold EA wd
  by_cases h:words.length=0
  · simp [h]
  · have hm:(0:Int)<(words.length:Int):=by omega
    obtain⟨h1,h2⟩:=Dg hk hm
    have e0:((words.length:Int) == 0)=false:=by
      cases hq:((words.length:Int) == 0) with
      | false=>rfl
      | true=>rw [beq_iff_eq] at hq; omega
    rw [e0,cond_false,ON (by omega),Option.bind_some,if_neg h]
    obtain⟨j,hj⟩:=Int.eq_ofNat_of_zero_le h1
    rw [hj,CW _ _ (by omega),Option.bind_some]
    have hjl:j<words.length:=by omega
    have:=hw _ (List.getElem_mem hjl)
    rw [I8 (by omega) (by omega)]
    simp [List.getD_eq_getElem?_getD,List.getElem?_eq_getElem hjl]
theorem FY {words:List (IK .u16)} (hw:PM words) (k:Int):0≤wd words k∧wd words k≤65535:=by
  unfold wd
  split
  · omega
  · rw [List.getD_eq_getElem?_getD]
    cases hq:words[(Int.tmod k (words.length:Int)).toNat]? with
    | none=>simp
    | some x=>exact hw x (List.mem_of_getElem? hq)
def IJ (y:Al) (words:List (IK .u16)) (b:Int):Int :=
  if Int.tmod (wd words b) 3=0 then(AN y b).lo else if Int.tmod (wd words b) 3=1 then(AN y b).hi
  else(AN y b).lo+Int.tmod (Int.tdiv (wd words b) 3) ((AN y b).hi-(AN y b).lo+1)
def keyOf (y:Al) (words:List (IK .u16)) (b:Int):Int:=2*IJ y words b+Int.tmod (wd words (2*b+1)) 2
theorem Hb {y:Al} (hv:y.buses.all D8=true) {words:List (IK .u16)} (hw:PM words) {b:Int} (hb:b∈Au y.buses.length):(AN y b).lo≤IJ y words b∧IJ y words b≤(AN y b).hi:=by
  have h1:=GX hv (C2.2 hb)
  have h2:=FY hw b
  unfold IJ
  split
  · omega
  · split
    · omega
    · have h3:0≤Int.tdiv (wd words b) 3:=Int.tdiv_nonneg h2.1 (by omega)
      have:=Dg h3 (show 0<(AN y b).hi-(AN y b).lo+1 by omega)
      omega
def BX (y:Al) (words:List (IK .u16)):List Int:=Db (BI (keyOf y words)) (Au y.buses.length)
theorem KX (t:Int→Int) (x:Int):∀ (A B:List Int)(n:Nat),A.length<n→A.length≤1000000 →
    CC n (A.reverse++x::B) ((A.reverse++x::B).map t) (A.length:Int)=some ((FW (BI t) x A).reverse++B,((FW (BI t) x A).reverse++B).map t)
  | _,_,0,h,_=>by omega
  | [],B,n+1,_,_=>by
    rw [CC]
    simp [FW]
  | y::A,B,n+1,h,hl=>by
    have hl':A.length+1≤1000000:=by simpa using hl
    have e0:(y::A).reverse++x::B=A.reverse++y::x::B:=by simp
    have e1:(y::A).reverse++x::B=(A.reverse++[y])++x::B:=by simp
    have m0:((y::A).reverse++x::B).map t=A.reverse.map t++t y::t x::B.map t:=by simp
    have m1:((y::A).reverse++x::B).map t=(A.reverse.map t++[t y])++t x::B.map t:=by simp
    have hk:(A.reverse++[y]).length=A.length+1:=by simp
    have hkm:(A.reverse.map t++[t y]).length=A.length+1:=by simp
    have i1:Bi ((y::A).reverse++x::B) ((A.length+1:Nat):Int)=some x:=by rw [e1,DK _ _ _ hk.symm]
    have i2:Bi ((y::A).reverse++x::B) (A.length:Int)=some y:=by rw [e0,DK _ _ _ (by simp)]
    have u1:upd ((y::A).reverse++x::B) ((A.length+1:Nat):Int) y=some (A.reverse++y::y::B):=by rw [e1,F9 _ _ _ _ hk.symm]; simp
    have i3:Bi (A.reverse++y::y::B) (A.length:Int)=some y:=DK _ _ _ (by simp)
    have u2:upd (A.reverse++y::y::B) (A.length:Int) x=some (A.reverse++x::y::B):=F9 _ _ _ _ (by simp)
    have j1:Bi (((y::A).reverse++x::B).map t) ((A.length+1:Nat):Int)=some (t x):=by rw [m1,DK _ _ _ hkm.symm]
    have j2:Bi (((y::A).reverse++x::B).map t) (A.length:Int)=some (t y):=by rw [m0,DK _ _ _ (by simp)]
    have v1:upd (((y::A).reverse++x::B).map t) ((A.length+1:Nat):Int) (t y)=some (A.reverse.map t++t y::t y::B.map t):=by rw [m1,F9 _ _ _ _ hkm.symm]; simp
    have j3:Bi (A.reverse.map t++t y::t y::B.map t) (A.length:Int)=some (t y):=DK _ _ _ (by simp)
    have v2:upd (A.reverse.map t++t y::t y::B.map t) (A.length:Int) (t x)=some (A.reverse.map t++t x::t y::B.map t):=F9 _ _ _ _ (by simp)
    have w1:IntKind.i64.wrap (((A.length+1:Nat):Int)-1)=(A.length:Int):=by rw [I8 (by omega) (by omega)]; omega
    have g1:decide (((A.length+1:Nat):Int)>0)=true:=decide_eq_true (by omega)
    rw [CC,List.length_cons]
    simp only [g1,cond_true,i1,i2,j1,j2,w1,Option.bind_some]
    rw [show decide (t x<t y)=BI t x y from rfl]
    unfold FW
    cases hx:BI t x y with
    | false=>simp
    | true =>
      simp only [cond_true,u1,i3,u2,v1,j3,v2,Option.bind_some,if_true]
      have ih:=KX t x A (y::B) n (by simp at h; omega) (by omega)
      rw [show(A.reverse++x::y::B).map t=A.reverse.map t++t x::t y::B.map t by simp] at ih
      rw [ih]
      simp
theorem KY {y:Al} (hb:y.buses.length≤100) (hv:y.buses.all D8=true) {words:List (IK .u16)} (hw:PM words):∀ (n i:Nat),300≤n+i→i≤y.buses.length →
    Dm n y words (Db (BI (keyOf y words)) (Au i)) ((Db (BI (keyOf y words)) (Au i)).map (keyOf y words)) (i:Int)=some (BX y words,(BX y words).map (keyOf y words))
  | 0,i,h,hi=>by omega
  | n+1,i,h,hi=>by
    rw [Dm,BS]
    by_cases hx:i<y.buses.length
    · have hm:(i:Int)∈Au y.buses.length:=by rw [AT]; omega
      have h1:=GX hv (C2.2 hm)
      have h2:=FY hw (i:Int)
      have h3:=FY hw (2*(i:Int)+1)
      have hmr:=Hb hv hw hm
      have hbus:Bi y.buses (i:Int)=some (AN y (i:Int)):=HH y (C2.2 hm)
      have hlen:(Db (BI (keyOf y words)) (Au i)).length=i:=by rw [Dd,BT]
      have w0:IntKind.i64.wrap ((AN y (i:Int)).hi-(AN y (i:Int)).lo)=(AN y (i:Int)).hi-(AN y (i:Int)).lo:=I8 (by omega) (by omega)
      have w1:IntKind.i64.wrap ((AN y (i:Int)).hi-(AN y (i:Int)).lo+1)=(AN y (i:Int)).hi-(AN y (i:Int)).lo+1:=I8 (by omega) (by omega)
      have hd0:0≤Int.tdiv (wd words (i:Int)) 3:=Int.tdiv_nonneg h2.1 (by omega)
      have hd1:Int.tdiv (wd words (i:Int)) 3≤65535:=by
        rw [Int.tdiv_eq_ediv_of_nonneg h2.1]; omega
      have w2:IntKind.i64.wrap (Int.tdiv (wd words (i:Int)) 3)=Int.tdiv (wd words (i:Int)) 3:=I8 (by omega) (by omega)
      have hsel:((bif Int.tmod (wd words (i:Int)) 3 == 0 then some (AN y (i:Int)).lo else(bif Int.tmod (wd words (i:Int)) 3 == 1 then some (AN y (i:Int)).hi else
          some (IntKind.i64.wrap ((AN y (i:Int)).lo+Int.tmod (Int.tdiv (wd words (i:Int)) 3) ((AN y (i:Int)).hi-(AN y (i:Int)).lo+1))))):Option Int)=some (IJ y words (i:Int)):=by
        unfold IJ
        by_cases c0:Int.tmod (wd words (i:Int)) 3=0
        · simp [c0]
        · by_cases c1:Int.tmod (wd words (i:Int)) 3=1
          · simp [c0,c1]
          · have:=Dg hd0 (show 0<(AN y (i:Int)).hi-(AN y (i:Int)).lo+1 by omega)
            rw [if_neg c0,if_neg c1]
            have b0:(Int.tmod (wd words (i:Int)) 3 == 0)=false:=by simp [c0]
            have b1:(Int.tmod (wd words (i:Int)) 3 == 1)=false:=by simp [c1]
            rw [b0,b1,cond_false,cond_false,I8 (by omega) (by omega)]
      have w3:IntKind.i64.wrap (2*(i:Int))=2*(i:Int):=I8 (by omega) (by omega)
      have w4:IntKind.i64.wrap (2*(i:Int)+1)=2*(i:Int)+1:=I8 (by omega) (by omega)
      have w5:IntKind.i64.wrap (2*IJ y words (i:Int))=2*IJ y words (i:Int):=I8 (by omega) (by omega)
      have ht:=Dg h3.1 (show(0:Int)<2 by omega)
      have w6:IntKind.i64.wrap (2*IJ y words (i:Int)+Int.tmod (wd words (2*(i:Int)+1)) 2)=keyOf y words (i:Int):=I8 (by omega) (by omega)
      simp only [hx,decide_true,cond_true,hbus,KA n words hw (i:Int) (by omega),Option.bind_some,w0,w1,w2,ON (show(AN y (i:Int)).hi-(AN y (i:Int)).lo+1≠0 by omega),hsel,w3,w4,KA n words hw (2*(i:Int)+1) (by omega),w5,w6]
      rw [GH _ _ (by simp [hlen]; omega)]
      simp only [Option.bind_some]
      rw [GH _ _ (by simp [hlen]; omega)]
      simp only [Option.bind_some]
      have h4:=KX (keyOf y words) (i:Int) (Db (BI (keyOf y words)) (Au i)).reverse [] n (by rw [List.length_reverse,hlen]; omega) (by rw [List.length_reverse,hlen]; omega)
      rw [List.reverse_reverse,List.length_reverse,hlen,List.append_nil,List.map_append] at h4
      rw [show(Db (BI (keyOf y words)) (Au i)).map (keyOf y words)++[keyOf y words (i:Int)]=(Db (BI (keyOf y words)) (Au i)).map (keyOf y words)++[(i:Int)].map (keyOf y words) from rfl,h4,Option.bind_some,Em i (by omega)]
      have e1:(FW (BI (keyOf y words)) (i:Int) (Db (BI (keyOf y words)) (Au i)).reverse).reverse=Db (BI (keyOf y words)) (Au (i+1)):=by
        rw [DS,J3]; rfl
      rw [e1]
      exact KY hb hv hw n (i+1) (by omega) (by omega)
    · have:i=y.buses.length:=by omega
      subst this
      simp [BX]
theorem Q1 (n:Nat) {y:Al} (hb:y.buses.length≤100) (hv:y.buses.all D8=true) {words:List (IK .u16)} (hw:PM words) (hn:300≤n):Hf n y words=some (BX y words):=by
  unfold Hf
  have e1:=KY hb hv hw n 0 (by omega) (by omega)
  rw [show((0:Nat):Int)=0 from rfl,show Db (BI (keyOf y words)) (Au 0)=[] from rfl,List.map_nil] at e1
  rw [e1]
  rfl
theorem N0 (y:Al):∀ (l pre:List Int),(pre++l).Nodup→(∀ b∈l,b∈Au y.buses.length)→(pre++l).Pairwise (fun a b=>(AN y a).lo≤(AN y b).hi)→IA y pre l=true
  | [],pre,_,_,_=>rfl
  | b::r,pre,hn,hm,hp=>by
    unfold IA OL
    have h1:F8 b 0 ((y.buses.length:Int)-1)=true:=C2.2 (hm b (by simp))
    have hn2:=hn
    rw [List.nodup_append] at hn2
    have h2:pre.contains b=false:=by
      have:b ∉ pre:=fun h=>hn2.2.2 b h b (by simp) rfl
      simpa using this
    have hp2:=hp
    rw [List.pairwise_append] at hp2
    have h3:(pre.any fun k=>decide ((AN y b).hi<(AN y k).lo))=false:=by
      rw [List.any_eq_false]
      intro k hk
      have:=hp2.2.2 k hk b (by simp)
      simp
      omega
    rw [h1,h2,h3]
    simp only [Bool.or_self,Bool.not_false,Bool.and_self,Bool.true_and]
    exact N0 y r (pre++[b]) (by simpa using hn) (fun c hc=>hm c (by simp [hc])) (by simpa using hp)
theorem Pt {y:Al} (hv:y.buses.all D8=true) {words:List (IK .u16)} (hw:PM words):IB y (BX y words)=true:=by
  unfold IB
  have hp:=Dy (BI (keyOf y words)) (Au y.buses.length)
  have hmem:∀ b,b∈BX y words↔b∈Au y.buses.length:=fun b=>hp.mem_iff
  have hlen:(BX y words).length=y.buses.length:=by unfold BX; rw [Dd,BT]
  rw [decide_eq_true hlen,Bool.true_and]
  refine N0 y _ [] ?_ (fun b hb=>(hmem b).1 hb) ?_
  · rw [List.nil_append]
    exact hp.nodup_iff.2 (CF _)
  · rw [List.nil_append]
    refine List.Pairwise.imp_of_mem (fun {a b} ha hb h=>?_) (KO (keyOf y words) (Au y.buses.length))
    have h1:=Hb hv hw ((hmem a).1 ha)
    have h2:=Hb hv hw ((hmem b).1 hb)
    have h3:=Dg (FY hw (2*a+1)).1 (show(0:Int)<2 by omega)
    have h4:=Dg (FY hw (2*b+1)).1 (show(0:Int)<2 by omega)
    unfold keyOf at h
    omega
theorem Iv {y:Al} (hb:y.buses.length≤100) {words:List (IK .u16)} (hw:PM words):∀ (n i:Nat)(acc:List Int),y.buses.length<n+i→i≤y.buses.length→acc.Pairwise (· < ·)→(∀ b∈acc,0≤b∧b<i)→acc.length≤i→((acc.length:Int)≤y.broken) →
    ∃ l,CD n y words acc (i:Int)=some l∧l.Pairwise (· < ·)∧(∀ b∈l,b∈Au y.buses.length)∧(l.length:Int)≤y.broken
  | 0,i,acc,h,hi,_,_,_,_=>by omega
  | n+1,i,acc,h,hi,h1,h2,h3,h4=>by
    rw [CD,BS]
    by_cases hx:i<y.buses.length
    · have w1:IntKind.i64.wrap (3*(i:Int))=3*(i:Int):=I8 (by omega) (by omega)
      have w2:IntKind.i64.wrap (3*(i:Int)+2)=3*(i:Int)+2:=I8 (by omega) (by omega)
      simp only [hx,decide_true,cond_true]
      rw [w1,w2,KA n words hw _ (by omega),Em i (by omega)]
      have skip:=Iv hb hw n (i+1) acc (by omega) (by omega) h1 (fun b hb=>by have:=h2 b hb; omega) (by omega) h4
      by_cases hq:(acc.length:Int)<y.broken
      · rw [decide_eq_true hq]
        simp only [cond_true,Option.bind_some]
        cases hz:(Int.tmod (wd words (3*(i:Int)+2)) 4 == 0) with
        | false=>simpa using skip
        | true =>
          simp only [cond_true]
          rw [GH _ _ (by simp; omega),Option.bind_some]
          refine Iv hb hw n (i+1) (acc++[(i:Int)]) (by omega) (by omega) ?_ (fun b hb=>?_) (by simp; omega) (by simp; omega)
          · rw [List.pairwise_append]
            refine⟨h1,by simp,fun a ha b hb=>?_⟩
            simp at hb
            have:=h2 a ha
            omega
          · rcases List.mem_append.1 hb with hb | hb
            · have:=h2 b hb; omega
            · simp at hb; omega
      · rw [decide_eq_false hq]
        simpa using skip
    · have:i=y.buses.length:=by omega
      subst this
      exact⟨acc,by simp,h1,fun b hb=>by rw [AT]; exact h2 b hb,h4⟩
theorem N1 (y:Al):∀ (l:List Int)(last:Int),(last::l).Pairwise (· < ·)→(∀ b∈l,b∈Au y.buses.length)→KR y last l=true
  | [],_,_,_=>rfl
  | b::r,last,hp,hm=>by
    unfold KR
    rw [List.pairwise_cons] at hp
    rw [C2.2 (hm b (by simp)),decide_eq_true (hp.1 b (by simp)),Bool.true_and,Bool.true_and]
    exact N1 y r b hp.2 fun c hc=>hm c (by simp [hc])
theorem Q2 (n:Nat) {y:Al} (hb:y.buses.length≤100) (hr:0≤y.broken) {words:List (IK .u16)} (hw:PM words) (hn:y.buses.length<n):∃ l,Hg n y words=some l∧KS y l=true∧l.length≤y.buses.length:=by
  unfold Hg
  obtain⟨l,e1,e2,e3,e4⟩:=Iv hb hw n 0 [] (by omega) (by omega) List.Pairwise.nil (by simp) (by simp) (by simpa using hr)
  rw [show((0:Nat):Int)=0 from rfl] at e1
  refine⟨l,by rw [e1]; rfl,?_,II (e2.imp fun h=>Int.ne_of_lt h) e3⟩
  unfold KS
  rw [decide_eq_true e4,Bool.and_true]
  refine N1 y l (-1) ?_ e3
  rw [List.pairwise_cons]
  exact⟨fun b hb=>by have:=AT.1 (e3 b hb); omega,e2⟩
theorem IL (y:Al) (x14 here:List Int) (hr:0<y.room.length) (hm:y.room.length≤1000) (hl:here.length=y.room.length):∀ (n k:Nat)(l:Int),y.room.length<n+k→k≤y.room.length→0≤l→l<(y.room.length:Int) →
    ∃ o,Cx n y x14 here (k:Int) l=some o∧0≤o∧o<(y.room.length:Int)
  | 0,k,l,h,hk,_,_=>by omega
  | n+1,k,l,h,hk,h0,h1=>by
    rw [Cx,BS]
    by_cases hx:k<y.room.length
    · obtain⟨j,rfl⟩:=Int.eq_ofNat_of_zero_le h0
      simp only [hx,decide_true,cond_true,CW here j (by omega),CW y.room j (by omega),Option.bind_some]
      cases hq:decide (here[j]≥y.room[j]) with
      | false=>exact⟨_,rfl,h0,h1⟩
      | true =>
        simp only [cond_true,ON (show((y.room.length:Nat):Int)≠0 by omega),Option.bind_some]
        rw [Em k (by omega),Em j (by omega)]
        have:=Dg (show(0:Int)≤((j+1:Nat):Int) by omega) (show(0:Int)<(y.room.length:Int) by omega)
        exact IL y x14 here hr hm hl n (k+1) _ (by omega) (by omega) this.1 this.2
    · have:k=y.room.length:=by omega
      subst this
      exact⟨l,by simp,h0,h1⟩
theorem JX (room:List Int):∀ (l pre:List Int)(x:Int),EH room pre (l++[x])=(EH room pre l && (F8 x 0 ((room.length:Int)-1) && decide (((pre++l).count x:Int)<C3 room x)))
  | [],pre,x=>by simp [EH]
  | b::r,pre,x=>by
    rw [List.cons_append,EH,EH,JX room r (pre++[b]) x]
    simp [Bool.and_assoc]
theorem IM {y:Al} (hr0:0<y.room.length) (hr:(y.room.all fun r=>F8 r 0 8)=true) (hm:y.room.length≤100) (hb:y.buses.length≤100) {words:List (IK .u16)} (hw:PM words) (x14:List Int):∀ (n i:Nat)(acc:List Int),400≤n+i→i≤y.buses.length→acc.length=i→EH y.room [] acc=true →
    ∃ r,Cy n y words x14 (DT y.room.length fun k=>(acc.count k:Int)) acc (i:Int)=some r∧(r=Ex.ret ([],false)∨∃ h l,r=Ex.go (h,l)∧l.length=y.buses.length∧EH y.room [] l=true)
  | 0,i,acc,h,hi,_,_=>by omega
  | n+1,i,acc,h,hi,ha,hR=>by
    rw [Cy,BS]
    by_cases hx:i<y.buses.length
    · have w1:IntKind.i64.wrap (5*(i:Int))=5*(i:Int):=I8 (by omega) (by omega)
      have w2:IntKind.i64.wrap (5*(i:Int)+1)=5*(i:Int)+1:=I8 (by omega) (by omega)
      simp only [hx,decide_true,cond_true]
      rw [w1,w2,KA n words hw _ (by omega),Option.bind_some,ON (show((y.room.length:Nat):Int)≠0 by omega),Option.bind_some]
      have ht:=Dg (FY hw (5*(i:Int)+1)).1 (show(0:Int)<(y.room.length:Int) by omega)
      obtain⟨o,e1,e2,e3⟩:=IL y x14 (DT y.room.length fun k=>(acc.count k:Int)) hr0 (by omega) (HI _ _) n 0 _ (by omega) (by omega) ht.1 ht.2
      rw [show((0:Nat):Int)=0 from rfl] at e1
      have hbt:F8 o 0 ((y.room.length:Int)-1)=true:=by rw [CN]; omega
      have er:Bi y.room o=some (C3 y.room o):=by
        have:=ML (g:=fun k=>y.room.getD k.toNat 0) hbt
        rwa [← Nw y.room] at this
      rw [e1]
      simp only [Option.bind_some,ML hbt,er]
      by_cases hq:(acc.count o:Int)<C3 y.room o
      · have hcl:acc.count o≤100:=Nat.le_trans List.count_le_length (by omega)
        rw [decide_eq_false (show ¬ (acc.count o:Int)≥C3 y.room o by omega),cond_false,OM hbt,Option.bind_some,GH _ _ (by simp; omega),Option.bind_some,Em i (by omega),I8 (by omega) (by omega)]
        have e4:(DT y.room.length fun x=>if x=o then(acc.count o:Int)+1 else(acc.count x:Int))=DT y.room.length fun k=>((acc++[o]).count k:Int):=by
          congr 1
          funext x
          rw [It]
          by_cases hxe:x=o
          · rw [if_pos hxe,if_pos hxe,hxe]
          · rw [if_neg hxe,if_neg hxe]; omega
        rw [e4]
        refine IM hr0 hr hm hb hw x14 n (i+1) (acc++[o]) (by omega) (by omega) (by simp [ha]) ?_
        rw [JX,hR,hbt,List.nil_append,decide_eq_true hq]
        rfl
      · rw [decide_eq_true (show(acc.count o:Int)≥C3 y.room o by omega),cond_true]
        exact⟨_,rfl,.inl rfl⟩
    · have:i=y.buses.length:=by omega
      exact⟨Ex.go ((DT y.room.length fun k=>(acc.count k:Int)),acc),by simp [this],.inr ⟨_,acc,rfl,by omega,hR⟩⟩
theorem Pu (n:Nat) {y:Al} (hr0:0<y.room.length) (hr:(y.room.all fun r=>F8 r 0 8)=true) (hm:y.room.length≤100) (hb:y.buses.length≤100) {words:List (IK .u16)} (hw:PM words) (hn:400≤n) :
    ∃ l is,Fh n y words=some (l,is)∧(is=true→GZ y l=true∧l.length=y.buses.length)∧(is=false→l=[]):=by
  unfold Fh
  rw [R3 _ _ (by omega),Option.bind_some]
  obtain⟨r,e1,e2⟩:=IM hr0 hr hm hb hw (List.replicate y.room.length 0) n 0 [] (by omega) (by omega) rfl rfl
  rw [show((0:Nat):Int)=0 from rfl,show(DT y.room.length fun k=>(([]:List Int).count k:Int))=List.replicate y.room.length 0 from(PJ _).symm] at e1
  rw [e1]
  rcases e2 with rfl | ⟨h,l,rfl,h1,h2⟩
  · exact⟨[],false,rfl,by simp,by simp⟩
  · exact⟨l,true,rfl,fun _=>⟨by unfold GZ; rw [decide_eq_true h1,h2]; rfl,h1⟩,by simp⟩
theorem PN (n:Nat) (y:Al) (hn:100≤n):Gc n y=some (decide (y.room.length≤6) && decide (y.buses.length≤12) && decide (Cr y=0)):=by
  unfold Gc
  rw [Qv,Option.bind_some]
  by_cases h1:y.room.length≤6
  · by_cases h2:y.buses.length≤12
    · rw [PG n y (by omega) (by omega) (by omega) (by omega)]
      by_cases hf:Cr y=0
      · simp [h1,h2,hf]
      · have:(Cr y == 0)=false:=by simp [hf]
        simp [h1,h2,hf,this]
    · simp [h1,h2]
  · simp [h1]
end Go.Proofs.Ythcbemnflgjadaa
namespace Go.Proofs.Ythcbemnflgjadaa
open Go Go.RowKit
end Go.Proofs.Ythcbemnflgjadaa
namespace Go.Proofs.Ythcbemnflgjadaa
open Go Go.RowKit
theorem JY (l:List Int) (x:Int) (hl:l.length≤1000):∀ (n i:Nat),l.length<n+i→i≤l.length→x∈l.drop i→CJ n l x (i:Int)=some (Ex.ret ((i+(l.drop i).idxOf x:Nat):Int))
  | 0,i,h,hi,_=>by omega
  | n+1,i,h,hi,hm=>by
    rw [CJ,BS]
    by_cases hx:i<l.length
    · rw [B7 hx] at hm
      simp only [hx,decide_true,cond_true,CW _ _ hx,Option.bind_some]
      rw [Em i (by omega),B7 hx,List.idxOf_cons]
      cases hv:(l[i] == x) with
      | true=>simp
      | false =>
        have hne : ¬ x=l[i]:=fun he=>by rw [he] at hv; simp at hv
        have hm':x∈l.drop (i+1):=by
          rcases List.mem_cons.1 hm with h1 | h1
          · exact absurd h1 hne
          · exact h1
        simp only [cond_false]
        rw [JY l x hl n (i+1) (by omega) (by omega) hm']
        congr 2
        simp
        omega
    · have:i=l.length:=by omega
      subst this
      simp at hm
theorem IN (n:Nat) {l:List Int} {x:Int} (hl:l.length≤1000) (hn:l.length<n) (hm:x∈l):CQ n l x=some (Cs l x):=by
  unfold CQ
  have h1:=JY l x hl n 0 (by omega) (by omega) (by simpa using hm)
  rw [show((0:Nat):Int)=0 from rfl,List.drop_zero,Nat.zero_add] at h1
  rw [h1]
  unfold Cs
  simp [Ex.bind,hm]
def Bq (m:Nat) (f:Int→Bool):List Bool:=(Au m).map f
theorem HJ (m:Nat) (f:Int→Bool):(Bq m f).length=m:=by simp [Bq,BT]
theorem J5 {m:Nat} {f:Int→Bool} {k:Nat} (h:k<m):(Bq m f)[k]? = some (f (k:Int)):=by
  unfold Bq Au
  rw [List.getElem?_map,List.getElem?_map,List.getElem?_range h]
  rfl
theorem HK {m:Nat} {f:Int→Bool} {b:Int} (h:b∈Au m):Bi (Bq m f) b=some (f b):=by
  rw [AT] at h
  obtain⟨k,rfl⟩:=Int.eq_ofNat_of_zero_le h.1
  rw [PA,J5 (by omega)]
theorem Mk {m:Nat} {f:Int→Bool} {l:List Bool} (hl:l.length=m) (h:∀ k,k<m→l[k]? = some (f (k:Int))):l=Bq m f:=by
  apply List.ext_getElem?
  intro k
  rcases Nat.lt_or_ge k m with hk | hk
  · rw [h k hk,J5 hk]
  · rw [List.getElem?_eq_none (by omega),List.getElem?_eq_none (by rw [HJ]; omega)]
theorem Ml {m:Nat} {f:Int→Bool} {b:Int} {v:Bool} (h:b∈Au m):upd (Bq m f) b v=some (Bq m fun x=>if x=b then v else f x):=by
  rw [AT] at h
  obtain⟨k,rfl⟩:=Int.eq_ofNat_of_zero_le h.1
  rw [Re _ _ _ (by rw [HJ]; omega)]
  congr 1
  refine Mk (by rw [List.length_set,HJ]) fun j hj=>?_
  by_cases hjk:j=k
  · subst hjk
    rw [List.getElem?_set_self (by rw [HJ]; omega)]
    simp
  · rw [List.getElem?_set_ne (Ne.symm hjk),J5 hj,if_neg (by omega)]
theorem Oz (m:Nat):List.replicate m false=Bq m fun _=>false:=Mk (by simp) fun k hk=>by
  rw [List.getElem?_replicate,if_pos hk]
theorem E8 {m:Nat} {f g:Int→Bool} (h:∀ x,f x=g x):Bq m f=Bq m g:=by rw [funext h]
def KZ (order L:List Int) (k:Nat):Int:=if k=0 then -1 else Cs order (L.getD (k-1) 0)
theorem La {y:Al} {order:List Int} (hO:IF y order) (hy:y.buses.length≤100) (lanes:List Int) (hl:lanes.length=y.buses.length) (o27:Bool) (e1:Int) (x86:List Bool) (M:List (List Int)) (i:Nat) (L:List Int) (hL:M[i]? = some L) (hLl:L.length≤100) (b:Int) (hb:b∈Au y.buses.length) (gf sf:Int→Bool)
    (H1:∀ c∈L,c∈Au y.buses.length∧gf c=false∧sf c=false∧EI lanes c=EI lanes b∧Cs order c<Cs order b) (H2:L.Pairwise fun a b=>Cs order a<Cs order b) (H3:L.Nodup) (m0:Nat) (hm0:m0≤1000):∀ (n k:Nat),300≤n+k→k≤L.length →
    BV n y (o27,lanes) order (M,e1) x86 (Bq y.buses.length gf) (i:Int) b (Bq y.buses.length fun x=>sf x || AH (L.take k) x) (k:Int) (KZ order L k) ((m0+k:Nat):Int)=some (Ex.go (Bq y.buses.length fun x=>sf x || AH L x,((m0+L.length:Nat):Int)))
  | 0,k,h,hk=>by omega
  | n+1,k,h,hk=>by
    rw [BV]
    dsimp only
    rw [show Bi M (i:Int)=some L by rw [PA,hL]]
    simp only [Option.bind_some]
    rw [BS]
    by_cases hx:k<L.length
    · obtain⟨c1,c2,c3,c4,c5⟩:=H1 _ (List.getElem_mem hx)
      have cr:=AT.1 c1
      have br:=AT.1 hb
      have w1:IntKind.i64.wrap ((y.buses.length:Int)-1)=(y.buses.length:Int)-1:=I8 (by omega) (by omega)
      have nin:AH (L.take k) L[k]=false:=by
        cases hq:AH (L.take k) L[k] with
        | false=>rfl
        | true =>
          have hm:L[k]∈L.take k:=by simpa [AH] using hq
          have h5:(L.take k++L.drop k).Nodup:=by rw [List.take_append_drop]; exact H3
          rw [List.nodup_append] at h5
          exact absurd rfl (h5.2.2 _ hm L[k] (by rw [B7 hx]; exact List.mem_cons_self))
      have hlast:KZ order L k<Cs order L[k]:=by
        unfold KZ
        split
        · have:=(Iu order L[k]).1; omega
        · rename_i hk0
          have hk1:k-1<L.length:=by omega
          rw [List.getD_eq_getElem?_getD,List.getElem?_eq_getElem hk1]
          exact List.pairwise_iff_getElem.1 H2 (k-1) k hk1 hx (by omega)
      have hp1:=IN n (l:=order) (x:=L[k]) (by rw [hO.len]; omega) (by rw [hO.len]; omega) ((hO.mem _).2 c1)
      have hp2:=IN n (l:=order) (x:=b) (by rw [hO.len]; omega) (by rw [hO.len]; omega) ((hO.mem _).2 hb)
      simp only [hx,decide_true,cond_true,CW _ _ hx,Option.bind_some,FT,w1,C2.2 c1,Bool.not_true,cond_false,HK c1,c2,c3,nin,Bool.or_self,FX lanes cr.1 (by omega),FX lanes br.1 (by omega),c4,bne_self_eq_false,hp1,hp2,
        decide_eq_false (show ¬ Cs order L[k]≥Cs order b by omega),decide_eq_false (show ¬ Cs order L[k]≤KZ order L k by omega),Ml c1]
      rw [Em k (by omega),I8 (x:=((m0+k:Nat):Int)+1) (by omega) (by omega),show((m0+k:Nat):Int)+1=((m0+(k+1):Nat):Int) by omega]
      have e2:L.take k++[L[k]]=L.take (k+1):=(List.take_succ_eq_append_getElem hx).symm
      have e3:(Bq y.buses.length fun x=>if x=L[k] then true else(sf x || AH (L.take k) x))=Bq y.buses.length fun x=>sf x || AH (L.take (k+1)) x:=E8 fun x=>by
        rw [← e2,Fd]
        split <;> simp
      have e4:Cs order L[k]=KZ order L (k+1):=by
        unfold KZ
        rw [if_neg (by omega),Nat.add_sub_cancel,List.getD_eq_getElem?_getD,List.getElem?_eq_getElem hx]
        rfl
      rw [e3,e4]
      exact La hO hy lanes hl o27 e1 x86 M i L hL hLl b hb gf sf H1 H2 H3 m0 hm0 n (k+1) (by omega) (by omega)
    · have:k=L.length:=by omega
      subst this
      simp
theorem Lb {y:Al} {order:List Int} (hO:IF y order) (hy:y.buses.length≤100) (lanes:List Int) (hl:lanes.length=y.buses.length) (o27:Bool) (x86:List Bool) (b:Int) (hb:b∈Au y.buses.length) (gf sf:Int→Bool) (many:Int)
    (H:∀ c∈Au y.buses.length,EI lanes c=EI lanes b→Cs order c<Cs order b→gf c=false→sf c=true):∀ (n i:Nat),300≤n+i→i≤y.buses.length →
    Bh n y (o27,lanes) order x86 (Bq y.buses.length gf) b (Bq y.buses.length sf,many) (i:Int)=some (Ex.go ())
  | 0,i,h,hi=>by omega
  | n+1,i,h,hi=>by
    rw [Bh]
    dsimp only
    rw [BS]
    by_cases hx:i<y.buses.length
    · have c1:(i:Int)∈Au y.buses.length:=by rw [AT]; omega
      have br:=AT.1 hb
      have hp1:=IN n (l:=order) (x:=(i:Int)) (by rw [hO.len]; omega) (by rw [hO.len]; omega) ((hO.mem _).2 c1)
      have hp2:=IN n (l:=order) (x:=b) (by rw [hO.len]; omega) (by rw [hO.len]; omega) ((hO.mem _).2 hb)
      have ih:=Lb hO hy lanes hl o27 x86 b hb gf sf many H n (i+1) (by omega) (by omega)
      simp only [hx,decide_true,cond_true,FX lanes (show(0:Int)≤(i:Int) by omega) (by omega),FX lanes br.1 (by omega),Option.bind_some,hp1,hp2,HK c1]
      rw [Em i (by omega)]
      cases h1:(EI lanes (i:Int) == EI lanes b) with
      | false=>simpa using ih
      | true =>
        simp only [cond_true]
        by_cases h2:Cs order (i:Int)<Cs order b
        · rw [decide_eq_true h2]
          simp only [cond_true]
          cases h3:gf (i:Int) with
          | true=>simpa using ih
          | false =>
            rw [H _ c1 (by simpa using h1) h2 h3]
            simpa using ih
        · rw [decide_eq_false h2]
          simpa using ih
    · have:i=y.buses.length:=by omega
      subst this
      simp
theorem LV {y:Al} {lanes order:List Int} (hO:IF y order) (g:Int→Bool) (b:Int):(DB y lanes order g b).Nodup∧(DB y lanes order g b).Pairwise fun a b=>Cs order a<Cs order b:=by
  have hnd:(DB y lanes order g b).Nodup:=by
    unfold DB
    rw [(Dy _ _).nodup_iff]
    exact List.Pairwise.filter _ (CF _)
  refine⟨hnd,?_⟩
  have h1:(DB y lanes order g b).Pairwise fun a b=>Cs order a≤Cs order b:=KO _ _
  refine List.Pairwise.imp_of_mem (fun {a c} ha hc h=>?_) (h1.and hnd)
  rcases Int.lt_or_eq_of_le h.1 with h4 | h4
  · exact h4
  · exact absurd (PL ((hO.mem a).2 (Fg.1 ha).1) ((hO.mem c).2 (Fg.1 hc).1) h4) h.2
theorem Pv (M:List (List Int)) (i:Nat) (h:i<M.length):(M.take (i+1)).flatten=(M.take i).flatten++M[i]:=by
  rw [List.take_succ_eq_append_getElem h,List.flatten_append]
  simp
theorem Hc (a b:List Int) (x:Int):AH (a++b) x=(AH a x || AH b x):=by
  unfold AH
  rw [Bool.eq_iff_iff]
  simp
theorem Lc {y:Al} {order:List Int} (hO:IF y order) (hy:y.buses.length≤8) (lanes:List Int) (hl:lanes.length=y.buses.length) (o27:Bool) (e1:Int) (x86:List Bool) (M:List (List Int)) (ts:List Int) (hts:∀ b∈ts,b∈Au y.buses.length) (htl:ts.length≤8) (hMt:M.length=ts.length) (hMl:∀ i,i≤M.length→(M.take i).flatten.length≤8):∀ (n i:Nat)(g:Int→Bool),600≤n+i→i≤ts.length→M.drop i=Cf y lanes order g (ts.drop i)→(∀ x,g x=(AH (ts.take i) x || AH (M.take i).flatten x)) →
    ∃ u,BW n y (o27,lanes) order (M,e1) ts x86 (Bq y.buses.length (AH (ts.take i))) (Bq y.buses.length (AH (M.take i).flatten)) (i:Int) ((M.take i).flatten.length:Int)=some (Ex.go (u,Bq y.buses.length (AH M.flatten),(M.flatten.length:Int)))
  | 0,i,g,h,hi,_,_=>by omega
  | n+1,i,g,h,hi,hM,hg=>by
    rw [BW]
    dsimp only
    rw [BS]
    by_cases hx:i<M.length
    · have hxt:i<ts.length:=by omega
      have hbm:=hts _ (List.getElem_mem hxt)
      rw [B7 hx,B7 hxt,Cf] at hM
      have hMi:M[i]=DB y lanes order g ts[i]:=(List.cons.inj hM).1
      have hMr:=(List.cons.inj hM).2
      obtain⟨s1,s2⟩:=LV (lanes:=lanes) hO g ts[i]
      rw [← hMi] at s1 s2
      have hl8:=hMl i (by omega)
      have hl9:=hMl (i+1) (by omega)
      have e2:=Pv M i hx
      have hLl:M[i].length≤8:=by rw [e2,List.length_append] at hl9; omega
      have h2:=La hO (by omega) lanes hl o27 e1 x86 M i M[i] (List.getElem?_eq_getElem hx) (by omega) ts[i] hbm (AH (ts.take i)) (AH (M.take i).flatten) (fun c hc=>by
        rw [hMi] at hc
        obtain⟨q1,q2,q3⟩:=Fg.1 hc
        rw [hg c,Bool.or_eq_false_iff] at q2
        unfold Qs at q3
        simp only [Bool.and_eq_true,beq_iff_eq,decide_eq_true_eq] at q3
        exact⟨q1,q2.1,q2.2,q3.1,q3.2⟩) s2 s1 (M.take i).flatten.length (by omega) n 0 (by omega) (by omega)
      rw [show((0:Nat):Int)=0 from rfl,show KZ order M[i] 0=-1 from rfl,Nat.add_zero,show(Bq y.buses.length fun x=>AH (M.take i).flatten x || AH (M[i].take 0) x)=Bq y.buses.length (AH (M.take i).flatten) from E8 fun x=>by simp [AH]] at h2
      have e3:(Bq y.buses.length fun x=>AH (M.take i).flatten x || AH M[i] x)=Bq y.buses.length (AH (M.take (i+1)).flatten):=E8 fun x=>by rw [e2,Hc]
      rw [e3] at h2
      have h3:=Lb hO (by omega) lanes hl o27 x86 ts[i] hbm (AH (ts.take i)) (AH (M.take (i+1)).flatten) (((M.take i).flatten.length+M[i].length:Nat):Int) (fun c hc q1 q2 q3=>by
        rw [e2,Hc]
        cases hq:AH (M.take i).flatten c with
        | true=>rfl
        | false =>
          have:c∈M[i]:=by
            rw [hMi,Fg]
            refine⟨hc,by rw [hg c,q3,hq]; rfl,?_⟩
            unfold Qs
            simp [q1,q2]
          simpa [AH] using this) n 0 (by omega) (by omega)
      rw [show((0:Nat):Int)=0 from rfl] at h3
      have e5:((M.take i).flatten.length+M[i].length:Nat)=(M.take (i+1)).flatten.length:=by rw [e2,List.length_append]
      simp only [hx,decide_true,cond_true,CW _ _ hxt,Option.bind_some,h2,Ex.bind,h3,HK hbm,Ml hbm]
      rw [Em i (by omega),e5]
      have e6:ts.take i++[ts[i]]=ts.take (i+1):=(List.take_succ_eq_append_getElem hxt).symm
      have e7:(Bq y.buses.length fun x=>if x=ts[i] then true else AH (ts.take i) x)=Bq y.buses.length (AH (ts.take (i+1))):=E8 fun x=>by rw [← e6,Fd]
      rw [e7]
      refine Lc hO hy lanes hl o27 e1 x86 M ts hts htl hMt hMl n (i+1) (Ha y lanes order g ts[i]) (by omega) (by omega) hMr fun x=>?_
      unfold Ha
      rw [hg x,← e6,Fd,e2,Hc,← hMi]
      split
      · rfl
      · simp [Bool.or_assoc]
    · have:i=M.length:=by omega
      subst this
      exact⟨Bq y.buses.length (AH (ts.take M.length)),by simp⟩
theorem Ld {y:Al} (hy:y.buses.length≤100) (s:List Int) (e1:Int) (u:List Bool) (sf:Int→Bool) (many:Int) (hs:s.Pairwise (· < ·)) (hm:∀ c∈s,c∈Au y.buses.length∧sf c=true) (hsl:s.length≤100):∀ (n i:Nat),s.length<n+i→i≤s.length →
    BC n y (s,e1) (u,Bq y.buses.length sf,many) (i:Int)=some (Ex.go ())
  | 0,i,h,hi=>by omega
  | n+1,i,h,hi=>by
    rw [BC]
    dsimp only
    rw [BS]
    by_cases hx:i<s.length
    · obtain⟨c1,c2⟩:=hm _ (List.getElem_mem hx)
      have w1:IntKind.i64.wrap ((y.buses.length:Int)-1)=(y.buses.length:Int)-1:=I8 (by omega) (by omega)
      have ih:=Ld hy s e1 u sf many hs hm hsl n (i+1) (by omega) (by omega)
      simp only [hx,decide_true,cond_true,CW _ _ hx,Option.bind_some,FT,w1,C2.2 c1,Bool.not_true,cond_false,HK c1,c2]
      rw [Em i (by omega)]
      cases i with
      | zero=>simpa using ih
      | succ j =>
        have hj:j<s.length:=by omega
        have w2:IntKind.i64.wrap (((j+1:Nat):Int)-1)=(j:Int):=by rw [I8 (by omega) (by omega)]; omega
        have hlt:=List.pairwise_iff_getElem.1 hs j (j+1) hj hx (by omega)
        rw [decide_eq_true (show((j+1:Nat):Int)>0 by omega),w2,CW _ _ hj]
        simp only [cond_true,Option.bind_some,decide_eq_false (show ¬ s[j+1]≤s[j] by omega),cond_false]
        exact ih
    · have:i=s.length:=by omega
      subst this
      simp
theorem N2 {l:List Int} {x:Int}:AH l x=true↔x∈l:=by simp [AH]
theorem N3 (y:Al) (lanes order broken:List Int):(Cn y lanes order broken).flatten.Perm (E7 y lanes order broken):=by
  obtain⟨s1,s2⟩:=E3 y lanes order (De y (AH broken)) fun _=>false
  refine(List.perm_ext_iff_of_nodup s1 (List.Pairwise.filter _ (CF _))).2 fun c=>?_
  rw [List.mem_filter]
  constructor
  · exact fun hc=>⟨(s2 c hc).2,N2.2 hc⟩
  · exact fun hc=>N2.1 hc.2
theorem K0 (y:Al) (lanes order broken:List Int):(E7 y lanes order broken).Pairwise (· < ·):=by
  unfold E7
  refine List.Pairwise.filter _ ?_
  refine((FL y.buses.length).and (CF y.buses.length)).imp fun {a b} h=>?_
  omega
theorem MO (y:Al) (words:List (IK .u16)) (hw:PM words):EX 700 y words=some true:=by
  unfold EX
  rw [PN 700 y (by omega)]
  simp only [Option.bind_some,Oq]
  by_cases hf:Cr y=0
  rotate_left
  · simp [hf]
  obtain⟨v1,v0,v2,v3,v4,v5,v6⟩:=IC hf
  have v3':=CN.1 v3
  rw [show(decide (y.room.length≤6) && decide (y.buses.length≤12) && decide (Cr y=0))=true by
    rw [decide_eq_true hf,decide_eq_true (show y.room.length≤6 by omega),decide_eq_true (show y.buses.length≤12 by omega)]; rfl]
  obtain⟨lanes,is,e1,e2,e3⟩:=Pu 700 v0 v4 (by omega) (by omega) hw (by omega)
  rw [cond_true,e1]
  simp only [Option.bind_some]
  cases is with
  | false=>simp
  | true =>
    obtain⟨l1,l2⟩:=e2 rfl
    simp only [Bool.not_true,cond_false]
    obtain⟨broken,d1,d2,d3⟩:=Q2 700 (y:=y) (by omega) v3'.1 hw (by omega)
    have hpo:=Pt v5 hw
    have hO:=Ox hpo
    have ha:Ct y lanes (BX y words) broken=0:=by
      unfold Ct G0
      rw [if_pos hf,l1,hpo,d2]
      rfl
    have htl:=Is y (AH broken)
    have hsl:=MN y lanes (BX y words) broken
    rw [Q1 700 (by omega) v5 hw (by omega),Option.bind_some,d1,Option.bind_some,Nq 700 y (by omega) (by omega) (by omega),Option.bind_some,F7 700 lanes (by omega),Option.bind_some,
      F7 700 (BX y words) (by rw [hO.len]; omega),Option.bind_some,F7 700 broken (by omega),Option.bind_some,
      Oy 700 y lanes (BX y words) broken (by omega) (by omega) (by omega) (by rw [hO.len]; omega) (by omega) (by omega),Option.bind_some,Option.bind_some,Option.bind_some,Option.bind_some,Option.bind_some,
      Ps 700 y lanes (BX y words) broken (by omega) (by omega) (by omega) (by rw [hO.len]; omega) (by omega) (by omega),Option.bind_some,MJ 700 y broken (by omega) (by omega) (by omega),Option.bind_some,ha]
    simp only [bne_self_eq_false,cond_false,Option.bind_some,if_true]
    have hml:(Cn y lanes (BX y words) broken).length=(De y (AH broken)).length:=by unfold Cn; rw [EW]
    rw [hml,bne_self_eq_false]
    simp only [cond_false]
    rw [R3 _ _ (by omega),Option.bind_some,Option.bind_some,Oz]
    obtain⟨s1,s2⟩:=E3 y lanes (BX y words) (De y (AH broken)) fun _=>false
    have hfl:=II s1 (fun c hc=>(s2 c hc).2)
    have htk:∀ i,i≤(Cn y lanes (BX y words) broken).length→((Cn y lanes (BX y words) broken).take i).flatten.length≤8:=fun i _=>by
      have h1:=congrArg List.flatten (List.take_append_drop i (Cn y lanes (BX y words) broken))
      rw [List.flatten_append] at h1
      have h2:=congrArg List.length h1
      rw [List.length_append] at h2
      have h3:(Cn y lanes (BX y words) broken).flatten.length≤y.buses.length:=hfl
      omega
    obtain⟨u,g1⟩:=Lc hO v2 lanes l2 true 0 (Bq y.buses.length fun _=>false) (Cn y lanes (BX y words) broken) (De y (AH broken)) (fun b hb=>(KQ.1 hb).1) (by omega) hml htk 700 0 (fun _=>false) (by omega) (by omega) rfl (fun x=>by simp [AH])
    rw [show((0:Nat):Int)=0 from rfl,List.take_zero,List.take_zero,List.flatten_nil,show Bq y.buses.length (AH [])=Bq y.buses.length (fun _=>false) from E8 fun x=>by simp [AH],show((([]:List Int).length:Nat):Int)=0 from rfl] at g1
    have g4:=Ld (y:=y) (by omega) (E7 y lanes (BX y words) broken) 0 u (AH (Cn y lanes (BX y words) broken).flatten) ((Cn y lanes (BX y words) broken).flatten.length:Int) (K0 _ _ _ _) (fun c hc=>by
      unfold E7 at hc
      rw [List.mem_filter] at hc
      exact hc) (by omega) 700 0 (by omega) (by omega)
    rw [show((0:Nat):Int)=0 from rfl] at g4
    rw [g1]
    simp only [Option.bind_some,Ex.bind]
    rw [g4]
    simp only [Option.bind_some,Ex.bind,(N3 y lanes (BX y words) broken).length_eq,beq_self_eq_true,cond_true]
end Go.Proofs.Ythcbemnflgjadaa
